import PyProof.Rows.All
import HandS.ForMost
import HandS.AnyAll
import HandS.Zip
import HandS.GenList
import HandS.TupAny
import HandS.TupMul
import HandS.IsInst
import HandS.Wide
import HandS.Walk
import HandS.HeadHook1
import HandS.HeadHook2
import HandS.HeadHook3
import HandS.HeadHook4
import HandS.Head0
import HandS.Head1
import HandS.Head2
import HandS.Head3
import HandS.HeadEnd
import KE.DataMinMax
import HandS.Conv
import KE.GoesMore
import HandS.Style
import HandS.Dict
import HandS.Star
import HandS.TupSets
import HandS.New0
import HandS.Gcd
import HandS.Defaults
import HandS.Codes
import HandS.EndTab
import HandS.HeadWalk
import PySem.Challenge.RW_flowwright_k57_whole_bars_across
set_option Elab.async false
set_option linter.all false
set_option maxRecDepth 100000
set_option maxHeartbeats 2000000
/-! Generator expressions over the layer: any element, any target, any walk; consumers all, any, tuple. -/
namespace MP
open PySem PySem.Spec PyProof.Rows L2 GxR GenW

/-- the loop's code of a generator expression -/
abbrev gLoop (elt tg iter : Expr) (ifs : List Expr) (scope : Scope) (pos : Pos) (it : Addr) (cenv : Env) : Code :=
  .compLoop (.GeneratorExp elt [⟨tg, iter, ifs, 0⟩] scope pos) 0 (.ref it) .none cenv
abbrev gStart (elt tg iter : Expr) (ifs : List Expr) (scope : Scope) (pos : Pos) (it : Addr) (cenv : Env) : Code :=
  .compStart (.GeneratorExp elt [⟨tg, iter, ifs, 0⟩] scope pos) 0 (.ref it) .none cenv

theorem over_frames {elt tg iter : Expr} {ifs : List Expr} {scope : Scope} {pos : Pos} {it : Addr} {cenv : Env} {A : Around} {l : List Env} (h : A.frames = some l) :
    (A.over (gLoop elt tg iter ifs scope pos it cenv) []).frames = some (cenv :: l) := by
  show pushEnvs (Code.envs (gLoop elt tg iter ifs scope pos it cenv)) (pushEnvs (envsOf (([] : List Frame).map Frame.where_)) A.frames) = _
  rw [h]; rfl
theorem over_guards {elt tg iter : Expr} {ifs : List Expr} {scope : Scope} {pos : Pos} {it : Addr} {cenv : Env} {A : Around} (h : A.guards = some []) :
    (A.over (gLoop elt tg iter ifs scope pos it cenv) []).guards = some [] := by
  show pushGuards (Code.guards (gLoop elt tg iter ifs scope pos it cenv)) (pushGuards (guardsOf (([] : List Frame).map Frame.where_)) A.guards) = _
  rw [h]; rfl
theorem over_room {elt tg iter : Expr} {ifs : List Expr} {scope : Scope} {pos : Pos} {it : Addr} {cenv : Env} {A : Around} {k : Nat} (h : Room (k + 1) A) :
    Room k (A.over (gLoop elt tg iter ifs scope pos it cenv) []) :=
  ⟨h.hd, by have := h.dp; show A.depth + 0 + 1 + 3 * k + 5 < _; omega, by have := h.un; show A.units + 0 + 3 + 16 * k + 200 < _; omega⟩

/-- the context of a generator expression's block -/
abbrev gcx (X : Cx) (A : Around) (s : Shared) (H : Hp) (N : List Str) (cenv : Env) (ex : List Addr) : Cx :=
  { X with A := A, N := N, s_0 := s, H_0 := H, env := cenv, outer := X.stack, stack := cenv :: X.stack, ex := ex, calm := true, fn := fun _ => false, pn := [], xe := fun _ _ => False }

/-- what the generator's names hold at its start: the captured ones -/
def Capt (X : Cx) (σ : L2.St) (scope : Scope) (N : List Str) (σ0 : L2.St) : Prop :=
  σ0.length = N.length ∧ ∀ (i : Nat) (x : Str) (v : V), N[i]? = some x → σ0[i]? = some (some v) →
    scope.names.lookup x = some .free ∧ (X.env.scope.names.lookup x = some .cell ∨ X.env.scope.names.lookup x = some .free) ∧ ∃ j : Nat, X.N[j]? = some x ∧ σ[j]? = some (some v)

section
variable {X : Cx} {pins : List (Addr × Obj)} {σ : L2.St} {H : Hp} {s : Shared}

theorem gcx_start {A : Around} {N : List Str} {scope : Scope} {code : Value} {it : Addr} {fp : List Addr} {σ0 : L2.St} {h5 : Heap} {g5 : Array GenState} {t5 : Nat}
    (I : Inv X pins σ H s) (hk : scope.kind = .function) (hcell : ∀ y ∈ scope.names, y.2 ≠ .cell) (hfree : ∀ y ∈ scope.names, y.2 = .free → ∃ c, X.env.cells.lookup y.1 = some c) (hC : Capt X σ scope N σ0)
    (hA : A.handled = none) (hF : A.frames = some (genEnv scope (cloFrom X.env.cells scope.names []) s.heap.objs.size code builtinsNs X.env :: X.stack))
    (hfp : ∀ b ∈ fp, FpOk X pins H b ∧ b < s.heap.objs.size)
    (kp : ∀ b o, s.heap.get? b = some o → h5.get? b = some o) (hn : h5.Ns s.heap.objs.size (fun y => if y = (".0" : Str) then some (.ref it) else none)) (hg : AllBare g5) :
    Inv (gcx X A s H N (genEnv scope (cloFrom X.env.cells scope.names []) s.heap.objs.size code builtinsNs X.env) fp) [] σ0 H { s with heap := h5, gens := g5, toks := t5 } := by
  generalize hcenv : genEnv scope (cloFrom X.env.cells scope.names []) s.heap.objs.size code builtinsNs X.env = cenv at hF ⊢
  have hL : cenv.locals = s.heap.objs.size := by rw [← hcenv]; rfl
  have hcl : cenv.cells = cloFrom X.env.cells scope.names [] := by rw [← hcenv]; rfl
  have hsc : cenv.scope = scope := by rw [← hcenv]; rfl
  have cm : ∀ {y c}, cenv.cells.lookup y = some c → X.env.cells.lookup y = some c ∧ c < s.heap.objs.size := fun {y c} hm => by
    rw [hcl] at hm
    rcases cloFrom_mem (PySem.mem_of_lookup hm) with hm | ⟨h1, rfl⟩
    · cases hm
    · obtain ⟨c, hc⟩ := hfree _ h1 rfl
      rw [hc]
      obtain ⟨w, z⟩ := I.cell _ _ hc
      exact ⟨rfl, z.lt⟩
  have look : ∀ {y}, scope.names.lookup y = some .free → ∃ c, cenv.cells.lookup y = some c := fun {y} hl => by
    obtain ⟨c', e'⟩ := mem_lookup (cloFrom_has (cells := X.env.cells) (acc := []) (PySem.mem_of_lookup hl))
    exact ⟨c', by rw [hcl]; exact e'⟩
  have ok : (gcx X A s H N cenv fp).Ok := by
    refine ⟨I.ok.mod, by show cenv.scope.kind = _; rw [hsc]; exact hk, by show cenv.globals = _; rw [← hcenv]; exact I.ok.glob, by show cenv.builtins = _; rw [← hcenv]; rfl, by show s.heap.objs.size ≤ cenv.locals; rw [hL]; exact Nat.le_refl _,
      fun y z c e1 e2 => I.ok.inj y z c (cm e1).1 (cm e2).1, fun y hy => ?_, fun y c z _ => (by cases z), fun _ => hA, hF, .inr ⟨rfl, by show cenv.frame = some cenv.locals; rw [← hcenv]; rfl⟩, fun b hb => ⟨?_, fun y c e z => ?_⟩, I.bs, Nat.le_trans I.ok.bsz I.sz, fun b o e hb => ?_, fun b hb z => ?_, I.stack, I.stkFree⟩
    · have hy : scope.names.lookup y = some .cell ∨ scope.names.lookup y = some .free := by
        have q : cenv.scope.names.lookup y = some .cell ∨ cenv.scope.names.lookup y = some .free := hy
        rw [hsc] at q; exact q
      rcases hy with hy | hy
      · exact absurd rfl (hcell _ (PySem.mem_of_lookup hy))
      · exact look hy
    · show b ≠ cenv.locals
      rw [hL]; exact Nat.ne_of_lt (hfp b hb).2
    · exact (hfp b hb).1.2.2.2.2.1 y c (cm e).1 z
    · have q := (hfp b hb).1.2.2.2.1
      rcases q with q | q
      · exact I.ok.noex b o e q
      · exact absurd (Nat.lt_of_lt_of_le (Heap.lt_size e) (Nat.le_trans I.ok.bsz q)) (Nat.lt_irrefl _)
    · rcases List.mem_cons.mp (I.stkSub b z) with q | q
      · exact (hfp b hb).1.2.1 q
      · exact (hfp b hb).1.2.2.1 q
  refine ⟨ok, rfl, hg, Un.kept kp, ⟨_, by show h5.Ns cenv.locals _; rw [hL]; exact hn, fun i x v e1 e2 _ => ?_⟩, fun y c e => ?_, ?_, fun y c e => I.freeC y c (cm e).1, fun p hp => absurd (show p ∈ ([] : List (Addr × Obj)) from hp) (by simp), I.hok.kept kp, hC.1⟩
  · obtain ⟨hf, ho, j, hj, hv⟩ := hC.2 i x v e1 e2
    obtain ⟨c, hc⟩ := look hf
    obtain ⟨m, _, hl⟩ := I.loc
    have hxc := (cm hc).1
    have vis : Vis X.env.scope x := .inr ho
    obtain ⟨u, r, l⟩ := hl j x v hj hv vis
    refine ⟨u, r, .inr ⟨.inr (by show cenv.scope.names.lookup x = _; rw [hsc]; exact hf), c, hc, ?_⟩⟩
    rcases l with ⟨hk, _⟩ | ⟨_, c', hc', z⟩
    · have hk : X.env.scope.names.lookup x = some .local := hk
      rcases ho with q | q <;> (rw [hk] at q; cases q)
    · rw [hxc] at hc'; cases hc'
      obtain ⟨o, e, d⟩ := z
      exact ⟨o, kp _ _ e, d⟩
  · obtain ⟨v, o, e1, d⟩ := I.cell y c (cm e).1
    exact ⟨v, o, kp _ _ e1, d⟩
  · show H cenv.locals = none
    rw [hL]; exact I.hok.fresh (Nat.le_refl _)

/-- the outer state behind a turn of the generator -/
theorem gcx_out {A : Around} {N : List Str} {cenv : Env} {fp : List Addr} {σ0 : L2.St} {pg : List (Addr × Obj)} {H' : Hp} {s' : Shared} (I : Inv X pins σ H s) (hfp : ∀ b ∈ fp, FpOk X pins H b)
    (J : Inv (gcx X A s H N cenv fp) pg σ0 H' s') : Inv X pins σ H' s' :=
  I.call' (ch := fp) (J.os) J.base J.hok J.bare fun b hb => let ⟨_, h1, _, h3, h4, h5⟩ := hfp b hb; ⟨h3, h1, h4, h5⟩
/-- only the table of generators has changed -/
theorem Inv.gens {g' : Array GenState} (I : Inv X pins σ H s) (hg : AllBare g') : Inv X pins σ H { s with gens := g' } :=
  I.call' (ch := []) rfl (Un.kept fun _ _ e => e) I.hok hg fun b hb => absurd hb (by simp)
theorem Inv.keptG {h' : Heap} {g' : Array GenState} {t' : Nat} (I : Inv X pins σ H s) (k : ∀ b u, s.heap.get? b = some u → h'.get? b = some u) (hg : AllBare g') : Inv X pins σ H { s with heap := h', gens := g', toks := t' } :=
  I.call' (ch := []) rfl (Un.kept k) (I.hok.kept k) hg fun b hb => absurd hb (by simp)
end

/-! ### the block's loop -/
/-- what is watched from outside (the generator's object, the consumer's list) stands -/
def Kept (wt : List Addr) (s s' : Shared) : Prop := ∀ b ∈ wt, ∀ o, s.heap.get? b = some o → s'.heap.get? b = some o
/-- the end of the block -/
def gFin {γ : Type} (Lk : γ → Shared → Prop) (Xg : Cx) (wt : List Addr) (σ0 : L2.St) (Z : γ → Hp → Prop) : Nat → Shared → Shared → Prop := fun _ s₀ s₁ =>
  ∃ c H, Lk c s₀ ∧ Inv Xg [] σ0 H s₁ ∧ Z c H ∧ Kept wt s₀ s₁ ∧ ∀ b ∈ wt, H b = none
def gEnd {γ : Type} (Lk : γ → Shared → Prop) (Xg : Cx) (wt : List Addr) (σ0 : L2.St) (Z : γ → Hp → Prop) : GenEnd := fun n s₀ r s₁ =>
  ((r = .ok (.ret .none) ∨ r = .ok .next) ∧ gFin Lk Xg wt σ0 Z n s₀ s₁) ∨ ∃ e, r = .error e ∧ (fun (_ : Value) (_ : Shared) => False) e s₁
/-- a value comes out -/
def gOut {γ : Type} (Lk : γ → Shared → Prop) (Xg : Cx) (wt fp : List Addr) (σ0 : L2.St) (W : γ → Nat → Nat → Hp → Prop) (P : γ → Nat → Nat → V → Hp → Prop) : Protocol := fun n s₀ v s₁ kap =>
  ∃ c i m x H, Lk c s₀ ∧ m ≤ n ∧ Inv Xg [] σ0 H s₁ ∧ RelV x v ∧ P c i m x H ∧ Kept wt s₀ s₁ ∧ (∀ b ∈ wt, H b = none) ∧
    ∀ s'', Inv Xg [] σ0 H s'' → (∀ b ∈ fp, ∀ o, s₁.heap.get? b = some o → s''.heap.get? b = some o) → (∀ b ∈ wt, ∃ o, s''.heap.get? b = some o ∧ ∀ v, o.data ≠ .cell v) →
      ∀ c' m', Lk c' s'' → m' < m → W c' (i + 1) m' H → kap (.send .none) s''
/-- the plan of a walk: what a turn comes to -/
def Plan {γ : Type} (J : It) (g : TG) (tt : TT) (te : TE) (vs : List Nat) (σ0 : L2.St) (Z : γ → Hp → Prop) (W : γ → Nat → Nat → Hp → Prop) (P : γ → Nat → Nat → V → Hp → Prop) : Prop :=
  ∀ c i m H, W c i m H → (J.stop i H ∧ Z c H) ∨ (J.go i H ∧ ∀ x H', J.yld i H x H' → g x σ0 H' fun σ2 H2 => wipe σ2 vs = σ0 ∧ tt σ2 H2 fun b H3 =>
    if b = true then te σ2 H3 fun y H4 => P c i m y H4 else ∃ m', m' < m ∧ W c (i + 1) m' H3)

theorem inv_wipe {X : Cx} {pins : List (Addr × Obj)} {σ : L2.St} {H : Hp} {s : Shared} {vs : List Nat} (I : Inv X pins σ H s) : Inv X pins (wipe σ vs) H s :=
  I.weak (wipe_length σ vs) fun i v e => (wipe_some e).1

section
variable {Xg : Cx} {Ag : Around} {elt tg iter : Expr} {ifs : List Expr} {scope : Scope} {pos : Pos} {J : It} {fp wt : List Addr} {it : Addr} {tn : Nat → Heap → Prop} {g : TG} {tt : TT} {te : TE} {vs : List Nat} {σ0 : L2.St} {γ : Type} {Lk : γ → Shared → Prop} {Z : γ → Hp → Prop}
  {W : γ → Nat → Nat → Hp → Prop} {P : γ → Nat → Nat → V → Hp → Prop}

theorem seg_gl (hA : Ag.over (gLoop elt tg iter ifs scope pos it Xg.env) [] = Xg.A) (hc : Xg.calm = true) (hco : Xg.env.scope.isCoroutine = false) (hxe : Xg.xe = fun _ _ => False) (T : Turn Xg.prog Xg.w Xg.K tg J fp it tn)
    (hg : PG Xg tg g) (ht : PTs Xg ifs tt) (he : PE Xg elt te) (hfp : ∀ b ∈ fp, ∀ H, H b = none → FpOk Xg [] H b) (hwt : ∀ b ∈ wt, b ≠ Xg.env.locals ∧ b ∉ Xg.fs) (hdis : ∀ b ∈ fp, b ∉ wt)
    (plan : Plan J g tt te vs σ0 Z W P) (hpn : Xg.pn = []) :
    ∀ (m n i : Nat) (c : γ) (s₀ s : Shared) (H : Hp), Lk c s₀ → m < n → W c i m H → Inv Xg (pinsAt wt s₀.heap) σ0 H s → tn i s.heap → (∀ b ∈ fp, H b = none) → (∀ b ∈ wt, ∃ o, s₀.heap.get? b = some o) →
      Seg (model Xg.prog Xg.w) Ag (gEnd Lk Xg wt σ0 Z) (gOut Lk Xg wt fp σ0 W P) n s₀ (gLoop elt tg iter ifs scope pos it Xg.env) ((model Xg.prog Xg.w).den (gLoop elt tg iter ifs scope pos it Xg.env)) [] s := by
  have kept : ∀ {s₀ s : Shared} {H : Hp} {σ : L2.St}, (∀ b ∈ wt, ∃ o, s₀.heap.get? b = some o) → Inv Xg (pinsAt wt s₀.heap) σ H s → Kept wt s₀ s ∧ ∀ b ∈ wt, H b = none := fun {s₀ s H σ} hw I => by
    refine ⟨fun b hb o e => (I.pin (b, o) (List.mem_append_right _ (mem_pinsAt hb e))).1, fun b hb => ?_⟩
    obtain ⟨o, e⟩ := hw b hb
    exact (I.pin (b, o) (List.mem_append_right _ (mem_pinsAt hb e))).2.1
  have nopin : ∀ {σ : L2.St} {H : Hp} {s₀ s : Shared}, Inv Xg (pinsAt wt s₀.heap) σ H s → Inv Xg [] σ H s := fun {σ H s₀ s} I => I.pins_of fun p hp => absurd hp (by simp)
  have fpok : ∀ {H : Hp} {s₀ : Shared}, (∀ b ∈ fp, H b = none) → ∀ b ∈ fp, FpOk Xg (pinsAt wt s₀.heap) H b := fun {H s₀} hn b hb => by
    obtain ⟨f0, f1, f2, f3, f4, _⟩ := hfp b hb H (hn b hb)
    refine ⟨f0, f1, f2, f3, f4, fun p hp z => ?_⟩
    rw [hpn, List.nil_append] at hp
    exact hdis b hb (z ▸ (of_pinsAt hp).1)
  intro m
  induction m using Nat.strongRecOn with
  | ind m ih =>
    intro n i c s₀ s H lk hmn w I st fr hw
    show Seg _ Ag _ _ _ s₀ _ ((compTurn (.GeneratorExp elt [⟨tg, iter, ifs, 0⟩] scope pos) 0 (.ref it) .none Xg.env).onRaise (leaving Xg.env)) [] s
    rw [compTurn_gen, Sem.onRaise_eq_wrap]
    refine seg_bind_wrap (wpAny_standAt ?_)
    rcases plan c i m H w with ⟨stop, z⟩ | ⟨go, step⟩
    · refine seg_bind_wrap ?_
      rw [hA]
      refine thn (T.done Xg rfl rfl rfl hc i _ s σ0 H _ I (fpok fr) st stop) fun r s1 ⟨hr, I1⟩ => ?_
      subst hr
      exact seg_end (.ok .next) (.inl ⟨.inr rfl, c, H, lk, nopin I1, z, kept hw I1⟩)
    · refine seg_bind_wrap ?_
      rw [hA]
      refine thn (T.item Xg rfl rfl rfl hc i _ s σ0 H _ I (fpok fr) st go) fun r s1 ⟨u, hr, h1⟩ => ?_
      subst hr
      refine seg_bind_wrap ?_
      rw [hA]
      refine thn h1 fun _ s2 ⟨x, H2, I2, r2, y2, st2, fr2⟩ => ?_
      -- the records of the iterator stand while the turn runs
      have I2' := I2.pinned (fpok (s₀ := s₀) fr2) (T.obj _ _ st2)
      have back : ∀ {σ3 : L2.St} {H3 : Hp} {s3 : Shared}, Inv Xg (pinsAt wt s₀.heap ++ pinsAt fp s2.heap) σ3 H3 s3 → Inv Xg (pinsAt wt s₀.heap) σ3 H3 s3 ∧ tn (i + 1) s3.heap ∧ ∀ b ∈ fp, H3 b = none := fun {σ3 H3 s3} I3 => by
        refine ⟨I3.unpinned, T.keep _ _ _ st2 fun b hb o e => (I3.pin (b, o) (List.mem_append_right _ (List.mem_append_right _ (mem_pinsAt hb e)))).1, fun b hb => ?_⟩
        obtain ⟨o, e, d⟩ := T.obj _ _ st2 b hb
        exact (I3.pin (b, o) (List.mem_append_right _ (List.mem_append_right _ (mem_pinsAt hb e)))).2.1
      refine seg_bind_wrap ?_
      rw [hA]
      refine wpAny_mono (hg.run _ s2 σ0 H2 x u _ I2' r2 (step x H2 y2)) (fun _ s3 ⟨σ3, H3, I3, ew, q3⟩ => ?_) fun e s' z => by rw [hxe] at z; exact z.elim
      refine seg_bind_wrap ?_
      rw [hA]
      refine wpAny_mono (ht.run _ s3 σ3 H3 _ I3 q3) (fun ok s4 ⟨H4, I4, q4⟩ => ?_) fun e s' z => by rw [hxe] at z; exact z.elim
      cases ok with
      | false =>
        simp only [Bool.false_eq_true, if_false] at q4 ⊢
        obtain ⟨m', hm', w'⟩ := q4
        have I5 := inv_wipe (vs := vs) I4
        rw [ew] at I5
        obtain ⟨I6, st6, fr6⟩ := back I5
        exact seg_again rfl (ih m' hm' n (i + 1) c s₀ s4 H4 lk (by omega) w' I6 st6 fr6 hw)
      | true =>
        simp only [if_true] at q4 ⊢
        have hy : ∀ v, yieldOut Xg.env v = yieldValue v := fun v => by simp only [yieldOut, hco, Bool.false_eq_true, if_false]
        simp only [hy]
        rw [Sem.bind_eq_wrap', Sem.bind_eq_wrap', Sem.wrap_wrap, Sem.wrap_wrap]
        refine seg_wrap ?_
        rw [hA]
        refine wpAny_mono (he.run _ s4 σ3 H4 _ I4 q4) (fun y s5 ⟨x5, H5, I5, r5, q5⟩ => ?_) fun e s' z => by rw [hxe] at z; exact z.elim
        have I6 := inv_wipe (vs := vs) I5
        rw [ew] at I6
        obtain ⟨I7, st7, fr7⟩ := back I6
        obtain ⟨k, rfl⟩ : ∃ k, n = k + 1 := ⟨n - 1, by omega⟩
        refine seg_at (seg_yield rfl rfl rfl ⟨c, i, m, x5, H5, lk, by omega, nopin I7, r5, q5, (kept hw I7).1, (kept hw I7).2, fun s'' I'' hk hwt'' c' m' lk' hm' w' => ?_⟩)
        refine seg_again rfl (ih m' hm' k (i + 1) c' s'' s'' H5 lk' (by omega) w' (I''.pins_of fun p hp => ?_) (T.keep _ _ _ st7 fun b hb o e => hk b hb o e) fr7 fun b hb => let ⟨o, e, _⟩ := hwt'' b hb; ⟨o, e⟩)
        obtain ⟨hb, e⟩ := of_pinsAt hp
        obtain ⟨o, e', d⟩ := hwt'' p.1 hb
        rw [e] at e'; cases e'
        exact ⟨e, (kept hw I7).2 p.1 hb, (hwt p.1 hb).1, (hwt p.1 hb).2, d⟩

theorem seg_gs (hA : Ag.over (gLoop elt tg iter ifs scope pos it Xg.env) [] = Xg.A) (hc : Xg.calm = true) (hco : Xg.env.scope.isCoroutine = false) (hxe : Xg.xe = fun _ _ => False) (T : Turn Xg.prog Xg.w Xg.K tg J fp it tn)
    (hg : PG Xg tg g) (ht : PTs Xg ifs tt) (he : PE Xg elt te) (hfp : ∀ b ∈ fp, ∀ H, H b = none → FpOk Xg [] H b) (hwt : ∀ b ∈ wt, b ≠ Xg.env.locals ∧ b ∉ Xg.fs) (hdis : ∀ b ∈ fp, b ∉ wt)
    (plan : Plan J g tt te vs σ0 Z W P) (hpn : Xg.pn = []) {m n : Nat} {c : γ} {s : Shared} {H : Hp} (lk : Lk c s) (hmn : m < n) (w : W c 0 m H) (I : Inv Xg [] σ0 H s) (st : tn 0 s.heap) (fr : ∀ b ∈ fp, H b = none) (frw : ∀ b ∈ wt, H b = none)
    (hw : ∀ b ∈ wt, ∃ o, s.heap.get? b = some o ∧ ∀ v, o.data ≠ .cell v) :
      Seg (model Xg.prog Xg.w) Ag (gEnd Lk Xg wt σ0 Z) (gOut Lk Xg wt fp σ0 W P) n s (gStart elt tg iter ifs scope pos it Xg.env) ((model Xg.prog Xg.w).den (gStart elt tg iter ifs scope pos it Xg.env)) [] s := by
  have I' : Inv Xg (pinsAt wt s.heap) σ0 H s := I.pins_of fun p hp => by
    obtain ⟨hb, e⟩ := of_pinsAt hp
    obtain ⟨o, e', d⟩ := hw p.1 hb
    rw [e] at e'; cases e'
    exact ⟨e, frw p.1 hb, (hwt p.1 hb).1, (hwt p.1 hb).2, d⟩
  have loop := seg_gl hA hc hco hxe T hg ht he hfp hwt hdis plan hpn m n 0 c s s H lk hmn w I' st fr fun b hb => let ⟨o, e, _⟩ := hw b hb; ⟨o, e⟩
  show Seg _ Ag _ _ _ s _ ((compStart (.GeneratorExp elt [⟨tg, iter, ifs, 0⟩] scope pos) 0 (.ref it) .none Xg.env).onRaise (leaving Xg.env)) [] s
  unfold compStart
  rw [Sem.onRaise_eq_wrap]
  show Seg _ Ag _ _ _ s _ ((ask >>= _).wrap _ _ _ _) [] s
  refine seg_bind_wrap (wpAny_askSetting ?_)
  split
  · exact seg_again rfl loop
  · first
      | exact seg_bind_wrap (wpAny_rule (seg_bind_wrap (wpAny_standAt (seg_bind_wrap (T.self _ 0 s _ _ st (seg_again rfl loop))))))
      | (refine seg_bind_wrap (wpAny_rule ?_); show Seg _ Ag _ _ _ s _ ((standAt iter.pos >>= _).wrap _ _ _ _) [] s; exact seg_bind_wrap (wpAny_standAt (seg_bind_wrap (T.self _ 0 s _ _ st (seg_again rfl loop)))))
end

/-! ### a generator is made -/
structure GenSc (X : Cx) (scope : Scope) : Prop where
  kind : scope.kind = .function
  co : scope.isCoroutine = false
  cell : ∀ y ∈ scope.names, y.2 ≠ .cell
  dot : scope.names.lookup (".0" : Str) = some NameKind.local
  free : ∀ y ∈ scope.names, y.2 = .free → X.env.scope.names.lookup y.1 = some .cell ∨ X.env.scope.names.lookup y.1 = some .free

/-- the generator at a, made at s5, not begun; H: what is held -/
structure GNew (X : Cx) (pins : List (Addr × Obj)) (σ : L2.St) (elt tg iter : Expr) (ifs : List Expr) (scope : Scope) (pos : Pos) (J : It) (H : Hp) (a : Addr) (g : Nat) (s4 s5 : Shared) (cenv : Env) (fp : List Addr) (it : Addr) (tn : Nat → Heap → Prop) : Prop where
  inv4 : Inv X pins σ H s4
  env : ∃ code, cenv = genEnv scope (cloFrom X.env.cells scope.names []) s4.heap.objs.size code builtinsNs X.env
  fps : ∀ b ∈ fp, FpOk X pins H b ∧ b < s4.heap.objs.size
  turn : Turn X.prog X.w X.K tg J fp it tn
  at0 : tn 0 s5.heap
  kp : ∀ b o, s4.heap.get? b = some o → s5.heap.get? b = some o
  ns : s5.heap.Ns s4.heap.objs.size (fun y => if y = (".0" : Str) then some (.ref it) else none)
  above : s4.heap.objs.size < a
  isg : s5.heap.IsGen a g
  gen : s5.gens[g]? = some (.fresh (gStart elt tg iter ifs scope pos it cenv))
  os : s5.os = s4.os
  bare : AllBare s5.gens

section
variable {X : Cx} {pins : List (Addr × Obj)} {σ : L2.St} {H : Hp} {s : Shared}
theorem gen_make {c P : Addr} {elt tg iter : Expr} {ifs : List Expr} {pos : Pos} {scope : Scope} {wi : TI} {k : Nat} {Q' : Value → Shared → Prop} {R : It → Hp → Prop}
    (hr : Room k X.A) (TB : TabB X.base X.mg c P) (hcode : X.env.code = .ref c) (S : GenSc X scope) (hi : PI X tg iter wi) (hs : ∀ v, genFold iter X.env v = pure v) (I : Inv X pins σ H s)
    (h : wi σ H fun J H1 => TabG H1 P ∧ ∀ H2, Tabbed P H1 H2 → R J H2)
    (hQ : ∀ J H2 a g s4 s5 cenv fp it tn, R J H2 → GNew X pins σ elt tg iter ifs scope pos J H2 a g s4 s5 cenv fp it tn → Q' (.ref a) s5) :
    wpAny (model X.prog X.w) X.A (eval (.GeneratorExp elt [⟨tg, iter, ifs, 0⟩] scope pos) X.env) Q' X.xe s := by
  have hfree : ∀ y ∈ scope.names, y.2 = .free → ∃ c, X.env.cells.lookup y.1 = some c := fun y hy e => by
    rcases S.free y hy e with k | k
    · exact I.ok.has _ (.inl k)
    · exact I.ok.has _ (.inr k)
  refine wpAny_GeneratorExp_make S.co (closure_ok hfree) S.cell S.dot S.kind hr.depth ?_ hs
  refine thn (hi.run pins s σ H _ I h) fun xv s1 h1 => thn h1 fun itv s2 h2 => ?_
  obtain ⟨it, fp, tn, J, H1, rfl, I1, T, st1, f1, ⟨ps, hP, htr⟩, hR⟩ := h2
  refine ⟨I1.nolimit, ?_⟩
  have hPs : s2.heap.get? P = some { cls := .none, data := .fields ps } := I1.hok P _ hP
  have cd : PySem.W.CodeHd s2.heap c P := TB.code.keeps fun b u e => I1.bk b u e
  have cont : ∀ (code : Value) (h3 : Heap) (tk : Nat) (ps' : Array Value), Heap.ExtBut P s2.heap h3 → s2.heap.objs.size ≤ h3.objs.size → h3.get? P = some { cls := .none, data := .fields ps' } → (∃ more, ps' = ps ++ more) → TriplesOk ps'.toList →
      wpAny (model X.prog X.w) X.A (builtinsFor X.env.globals X.env.builtins) (fun bi s₄ => ∀ h' : Heap, h'.Ns s₄.heap.objs.size (fun y => if y = (".0" : Str) then some (.ref it) else none) →
        Heap.SameBut s₄.heap.objs.size (s₄.heap.push { cls := .type "frame", data := .dict #[] }) h' →
        Q' (.ref h'.objs.size) { s₄ with
          gens := s₄.gens.push (.fresh (.compStart (.GeneratorExp elt [⟨tg, iter, ifs, 0⟩] scope pos) 0 (.ref it) .none (genEnv scope (cloFrom X.env.cells scope.names []) s₄.heap.objs.size code bi X.env))),
          toks := s₄.toks + 1 + 1 + 1,
          heap := h'.push { cls := .type "generator", data := .fields #[.int s₄.gens.size 0, .str "<genexpr>" (s₄.toks + 1), .str (X.env.qual ++ "<genexpr>") (s₄.toks + 1 + 1)] } }) X.xe { s2 with heap := h3, toks := tk } := by
    intro code h3 tk ps' hx hsz hP3 ⟨more, em⟩ ht3
    obtain ⟨bm, ob, e1, e2, e3, e4, e5, e6, e7, e8⟩ := TB.bm
    have keep3 : ∀ b u, b ≠ P → s2.heap.get? b = some u → h3.get? b = some u := fun b u hb e => hx b u hb e
    refine wpAny_builtinsFor (m := X.mg) (by rw [I1.ok.glob]; exact (I1.mod.glob.keeps I1.bk).extBut hx TB.gP) e1 e2 (keep3 _ _ e4 (I1.bk _ _ e5)) e6 e7 e8 ?_
    intro h' hn' hs'
    have I3 : Inv X pins σ (upd H1 P (.tbl ps')) { s2 with heap := h3, toks := tk } := by
      rw [em]
      exact inv_tab (more := more) (h' := h3) (g' := s2.gens) (d' := s2.drawn) (t' := tk) I1 hP keep3 (by rw [← em]; exact hP3) I1.bare
    have keep4 : ∀ b o, h3.get? b = some o → h'.get? b = some o := fun b o e => hs'.extBut b o (Nat.ne_of_lt (Heap.lt_size e)) (Heap.get?_push_of_some _ e)
    have sz4 : h'.objs.size = h3.objs.size + 1 := by rw [hs'.1, Heap.size_push]
    have keep5 : ∀ (o5 : Obj) b o, h3.get? b = some o → (h'.push o5).get? b = some o := fun o5 b o e => Heap.get?_push_of_some _ (keep4 b o e)
    have nP : ∀ b, H1 b = none → b ≠ P := fun b e z => by rw [z, hP] at e; cases e
    have st3 : tn 0 h3 := T.keep _ _ _ st1 fun b hb o e => keep3 b o (nP b (f1 b hb).1) e
    refine hQ J (upd H1 P (.tbl ps')) h'.objs.size s2.gens.size { s2 with heap := h3, toks := tk } _ _ fp it tn (hR _ ⟨⟨ps', upd_same, ht3⟩, fun b hb => upd_ne hb⟩) ⟨I3, ⟨code, rfl⟩, fun b hb => ⟨?_, ?_⟩, T, ?_, ?_, ?_, ?_, ?_, ?_, rfl, ?_⟩
    · obtain ⟨x0, x1⟩ := f1 b hb
      exact ⟨by rw [upd_ne (nP b x0)]; exact x0, x1⟩
    · obtain ⟨o, e, _⟩ := T.obj _ _ st3 b hb
      exact Heap.lt_size e
    · exact T.keep _ _ _ st3 fun b _ o e => keep5 _ b o e
    · exact fun b o e => keep5 _ b o e
    · exact hn'.push _
    · show h3.objs.size < h'.objs.size
      omega
    · exact ⟨_, _, _, Heap.get?_push_size _ rfl, rfl, rfl, rfl⟩
    · exact Array.getElem?_push_size ..
    · exact I1.bare.push rfl
  cases hf : codeAmong pos ps.toList with
  | none =>
    refine wpAny_genexprCodeX hcode (cd.code hPs htr) (cd.tab hPs) hf fun c' h' tk hx hge hlt hco' _ htab' _ => ?_
    obtain ⟨o1, vs, f1, tf, fl, tg, inF, tx, tt, op, _, _, _, _, _, _, _, _, _, htr2, _⟩ := hco'
    exact cont _ h' tk _ hx (Nat.le_trans hge (Nat.le_of_lt hlt)) htab'.2 ⟨_, rfl⟩ htr2
  | some cv =>
    refine wpAny_genexprCode_hit hcode (cd.code hPs htr) hf ?_
    exact cont cv s2.heap s2.toks ps (Heap.ExtBut.refl _ _) (Nat.le_refl _) hPs ⟨#[], by simp⟩ htr
end

/-! ### the consumers all, any -/
/-- a context of the block of a generator expression within X -/
structure IsG (X : Cx) (scope : Scope) (N : List Str) (k : Nat) (Xg : Cx) : Prop where
  prog : Xg.prog = X.prog
  w : Xg.w = X.w
  K : Xg.K = X.K
  mg : Xg.mg = X.mg
  base : Xg.base = X.base
  N : Xg.N = N
  scope : Xg.env.scope = scope
  calm : Xg.calm = true
  room : Room k Xg.A

section
variable {X : Cx} {pins : List (Addr × Obj)} {σ : L2.St} {H : Hp} {s : Shared}
/-- what one more turn asks of the consumer: the outcome c goes on at it, not else -/
def pBool (W : Nat → Nat → Hp → Prop) (go : Bool) (ZF : Hp → Prop) : Unit → Nat → Nat → V → Hp → Prop := fun _ i m y H => ∃ c, y = .bl c ∧ if c = go then ∃ m', m' < m ∧ W (i + 1) m' H else ZF H
abbrev lkU : Unit → Shared → Prop := fun _ _ => True

/-- the state between two turns, for a consumer that keeps all -/
theorem loopG {Xg : Cx} {A : Around} {go : Bool} {nm : String} {a : Addr} {g : Nat} {fp : List Addr} {σ0 : L2.St} {W : Nat → Nat → Hp → Prop} {Z ZF : Hp → Prop} {R : Result → Shared → Prop} {b : Builtin}
    (hh : A.handled = none) (hd : A.depth < recursionLimit) (hp : plainId nm = true) (hent : entryFor table nm = some b) (hdis : ∀ b ∈ fp, b ≠ a)
    (turn : ∀ s, wpAny (model Xg.prog Xg.w) A.in1 (pyNext (.ref a)) (fun r s1 => (r = none ∧ R (.ok (.ret (.bool go))) s1) ∨ ∃ c, r = some (.bool c) ∧ if c = go then codeAny (model Xg.prog Xg.w) A (.builtin nm ⟨[.ref a], []⟩) R s1 else R (.ok (.ret (.bool (!go)))) s1) (fun _ _ => False) s →
      codeAny (model Xg.prog Xg.w) A (.builtin nm ⟨[.ref a], []⟩) R s)
    (hend : ∀ s' H, Inv Xg [] σ0 H s' → Z H → ∀ h' g', (∀ b o, s'.heap.get? b = some o → h'.get? b = some o) → AllBare g' → R (.ok (.ret (.bool go))) { s' with heap := h', gens := g' })
    (hout : ∀ s' H g', Inv Xg [] σ0 H s' → ZF H → AllBare g' → R (.ok (.ret (.bool (!go)))) { s' with gens := g' }) :
    ∀ (n : Nat), 0 < n → ∀ (s : Shared), s.heap.IsGen a g → (∃ H, Inv Xg [] σ0 H s) →
      (∃ gs, s.gens[g]? = some gs ∧ gs.Goes (model Xg.prog Xg.w) A.in1.in1 (gEnd lkU Xg [a] σ0 (fun _ => Z)) (gOut lkU Xg [a] fp σ0 (fun _ => W) (pBool W go ZF)) n (.send .none) (s.setGen g .running)) →
      codeAny (model Xg.prog Xg.w) A (.builtin nm ⟨[.ref a], []⟩) R s := by
  intro n
  induction n with
  | zero => intro h; omega
  | succ n ih =>
    intro _ s hg ⟨H, I⟩ ⟨gs, hgs, hgo⟩
    have hgl : g < s.gens.size := (Array.getElem?_eq_some_iff.mp hgs).1
    have hl : s.heap.NoLimit := I.nolimit
    have isg : ∀ {s1 : Shared} {g' : Array GenState}, Kept [a] s s1 → ({ s1 with gens := g' } : Shared).heap.IsGen a g := fun {s1 g'} hk => by
      obtain ⟨o, nm, qn, ho, r⟩ := hg
      exact ⟨o, nm, qn, hk a (by simp) o ho, r⟩
    refine turn s (wpAny_gsz (n := g + 1) hgl (next_genG (A := A.in1) hh hl hd hg hgs hgo (fun v s₁ gs' hbare hv => ?_) (fun s₁ hp h' hk => ?_) fun e s₁ he => he.elim))
    · intro hsz
      obtain ⟨_, i, m, x, H1, _, hm, I1, rx, ⟨c, rfl, q⟩, hkp, hfr, cont⟩ := hv
      cases rx
      refine .inr ⟨c, rfl, ?_⟩
      have hb2 : AllBare (s₁.setGen g gs').gens := allBare_setGen I1.bare hbare
      by_cases hc : c = go
      · rw [if_pos hc] at q ⊢
        obtain ⟨m', hm', w'⟩ := q
        have hsz1 : g < s₁.gens.size := by
          have q : (s₁.setGen g gs').gens.size = s₁.gens.size := setGen_size _ _ _
          have hsz' : g + 1 ≤ (s₁.setGen g gs').gens.size := hsz
          omega
        have I2 : Inv Xg [] σ0 H1 (s₁.setGen g gs') := Inv.gens I1 hb2
        refine ih (by simp at hm; omega) (s₁.setGen g gs') (isg (g' := (s₁.setGen g gs').gens) hkp) ⟨H1, I2⟩ ⟨gs', setGen_at hsz1, ?_⟩
        refine cont _ (Inv.gens I2 (allBare_setGen hb2 rfl)) (fun b hb o e => e) (fun b hb => ?_) () m' trivial hm' w'
        rw [List.mem_singleton.mp hb]
        obtain ⟨o, nm', qn, ho, _, hd', _⟩ := isg (g' := s₁.gens) hkp
        exact ⟨o, ho, fun v z => by rw [hd'] at z; cases z⟩
      · rw [if_neg hc] at q ⊢
        exact hout s₁ H1 _ I1 q hb2
    · intro _
      obtain ⟨_, H1, _, I1, z, _, _⟩ := hp
      exact .inl ⟨rfl, hend s₁ H1 I1 z h' _ hk (allBare_setGen I1.bare rfl)⟩

theorem turn_all {P : Program} {w : World} {A : Around} {a : Addr} {R : Result → Shared → Prop} (s : Shared)
    (h : wpAny (model P w) A.in1 (pyNext (.ref a)) (fun r s1 => (r = none ∧ R (.ok (.ret (.bool true))) s1) ∨ ∃ c, r = some (.bool c) ∧ if c = true then codeAny (model P w) A (.builtin "all.loop" ⟨[.ref a], []⟩) R s1 else R (.ok (.ret (.bool (!true)))) s1) (fun _ _ => False) s) :
    codeAny (model P w) A (.builtin "all.loop" ⟨[.ref a], []⟩) R s := by
  refine codeAny_builtin F.entry_all_loop ?_
  rw [Around.under_plainId F.plain_all_loop _]
  show wpAny _ A.in1 (pyNext (.ref a) >>= _) _ _ s
  refine wpAny_bind (wpAny_mono h (fun r s1 h1 => ?_) fun _ _ z => z.elim)
  rcases h1 with ⟨rfl, q⟩ | ⟨c, rfl, q⟩
  · exact wpAny_bind (wpAny_rule (wpAny_pure q))
  · refine wpAny_bind (wpAny_holding (wpAny_truthy_bool ?_))
    refine wpAny_bind (wpAny_letGo ?_)
    cases c with
    | true =>
      simp only [if_true] at q ⊢
      exact wpAny_pure ⟨plainId_quiet F.plain_all_loop _, q⟩
    | false =>
      simp only [Bool.false_eq_true, if_false] at q ⊢
      exact wpAny_bind (wpAny_rule (wpAny_pure q))
theorem turn_any {P : Program} {w : World} {A : Around} {a : Addr} {R : Result → Shared → Prop} (s : Shared)
    (h : wpAny (model P w) A.in1 (pyNext (.ref a)) (fun r s1 => (r = none ∧ R (.ok (.ret (.bool false))) s1) ∨ ∃ c, r = some (.bool c) ∧ if c = false then codeAny (model P w) A (.builtin "any.loop" ⟨[.ref a], []⟩) R s1 else R (.ok (.ret (.bool (!false)))) s1) (fun _ _ => False) s) :
    codeAny (model P w) A (.builtin "any.loop" ⟨[.ref a], []⟩) R s := by
  refine codeAny_builtin F.entry_any_loop ?_
  rw [Around.under_plainId F.plain_any_loop _]
  show wpAny _ A.in1 (pyNext (.ref a) >>= _) _ _ s
  refine wpAny_bind (wpAny_mono h (fun r s1 h1 => ?_) fun _ _ z => z.elim)
  rcases h1 with ⟨rfl, q⟩ | ⟨c, rfl, q⟩
  · exact wpAny_bind (wpAny_rule (wpAny_pure q))
  · refine wpAny_bind (wpAny_holding (wpAny_truthy_bool ?_))
    refine wpAny_bind (wpAny_letGo ?_)
    cases c with
    | false =>
      simp only [if_true] at q
      simp only [Bool.false_eq_true, if_false]
      exact wpAny_pure ⟨plainId_quiet F.plain_any_loop _, q⟩
    | true =>
      simp only [if_true] at q ⊢
      exact wpAny_bind (wpAny_rule (wpAny_pure q))

/-- the generator begins: what a consumer's first turn needs -/
theorem GNew.goes {elt tg iter : Expr} {ifs : List Expr} {scope : Scope} {pos : Pos} {J : It} {a : Addr} {gi : Nat} {s4 s5 s6 : Shared} {cenv : Env} {fp wt : List Addr} {it : Addr} {tn : Nat → Heap → Prop} {N : List Str} {Ag : Around} {σ0 : L2.St}
    {g : TG} {tt : TT} {te : TE} {vs : List Nat} {γ : Type} {Lk : γ → Shared → Prop} {Z : γ → Hp → Prop} {W : γ → Nat → Nat → Hp → Prop} {P : γ → Nat → Nat → V → Hp → Prop} {k m n : Nat} {c : γ}
    (G : GNew X pins σ elt tg iter ifs scope pos J H a gi s4 s5 cenv fp it tn) (S : GenSc X scope) (hC : Capt X σ scope N σ0) (hr : Room (k + 1) Ag) (hF : Ag.frames = some X.stack)
    (hg : ∀ Xg, IsG X scope N k Xg → PG Xg tg g) (ht : ∀ Xg, IsG X scope N k Xg → PTs Xg ifs tt) (he : ∀ Xg, IsG X scope N k Xg → PE Xg elt te)
    (plan : Plan J g tt te vs σ0 Z W P) (lk : Lk c s6) (hmn : m < n) (w : W c 0 m H)
    (k6 : ∀ b o, s5.heap.get? b = some o → s6.heap.get? b = some o) (o6 : s6.os = s5.os) (b6 : AllBare s6.gens) (hwt : ∀ b ∈ wt, a ≤ b ∧ ∃ o, s6.heap.get? b = some o ∧ ∀ v, o.data ≠ .cell v) :
    ∃ Xg : Cx, IsG X scope N k Xg ∧ (∀ σ' H' s' pg, Inv Xg pg σ' H' s' → Inv X pins σ H' s') ∧ Inv Xg [] σ0 H s6 ∧
      Seg (model X.prog X.w) Ag (gEnd Lk Xg wt σ0 Z) (gOut Lk Xg wt fp σ0 W P) n s6 (gStart elt tg iter ifs scope pos it cenv) ((model X.prog X.w).den (gStart elt tg iter ifs scope pos it cenv)) [] s6 ∧ Xg.prog = X.prog ∧ Xg.w = X.w ∧ Xg.pn = [] ∧ ∀ b, a ≤ b → Xg.s_0.heap.objs.size ≤ b ∧ b ≠ Xg.env.locals ∧ ∀ x c, Xg.env.cells.lookup x = some c → c ≠ b := by
  obtain ⟨code, hcenv⟩ := G.env
  have hfree : ∀ y ∈ scope.names, y.2 = .free → ∃ c, X.env.cells.lookup y.1 = some c := fun y hy e => by
    rcases S.free y hy e with k | k
    · exact G.inv4.ok.has _ (.inl k)
    · exact G.inv4.ok.has _ (.inr k)
  have hfr := over_frames (elt := elt) (tg := tg) (iter := iter) (ifs := ifs) (scope := scope) (pos := pos) (it := it) (cenv := cenv) hF
  have kp6 : ∀ b o, s4.heap.get? b = some o → s6.heap.get? b = some o := fun b o e => k6 b o (G.kp b o e)
  have hn6 : s6.heap.Ns s4.heap.objs.size (fun y => if y = (".0" : Str) then some (.ref it) else none) := by
    obtain ⟨o, es, ep, e, r⟩ := G.ns
    exact ⟨o, es, ep, k6 _ _ e, r⟩
  have I6 : Inv (gcx X (Ag.over (gLoop elt tg iter ifs scope pos it cenv) []) s4 H N cenv fp) [] σ0 H s6 := by
    have q := gcx_start (A := Ag.over (gLoop elt tg iter ifs scope pos it cenv) []) (N := N) (code := code) (it := it) (fp := fp) (h5 := s6.heap) (g5 := s6.gens) (t5 := s6.toks) G.inv4 S.kind S.cell hfree hC hr.hd
      (by rw [← hcenv]; exact hfr) G.fps kp6 hn6 b6
    rw [← hcenv] at q
    obtain ⟨z1, z2, z3, z4, z5, z6, z7, z8, z9, z10, z11⟩ := q
    exact ⟨z1, o6.trans G.os, z3, z4, z5, z6, z7, z8, z9, z10, z11⟩
  have hL : cenv.locals = s4.heap.objs.size := by rw [hcenv]; rfl
  have hsc : cenv.scope = scope := by rw [hcenv]; rfl
  have isg : IsG X scope N k (gcx X (Ag.over (gLoop elt tg iter ifs scope pos it cenv) []) s4 H N cenv fp) := ⟨rfl, rfl, rfl, rfl, rfl, rfl, hsc, rfl, over_room hr⟩
  have cl : ∀ {y c}, cenv.cells.lookup y = some c → c < s4.heap.objs.size := fun {y c} e => by
    rw [hcenv] at e
    rcases cloFrom_mem (PySem.mem_of_lookup e) with hm | ⟨h1, rfl⟩
    · cases hm
    · obtain ⟨c, hc⟩ := hfree _ h1 rfl
      rw [hc]
      obtain ⟨w, z⟩ := G.inv4.cell _ _ hc
      exact z.lt
  have above : ∀ b, b ∈ wt → s4.heap.objs.size < b := fun b hb => Nat.lt_of_lt_of_le G.above (hwt b hb).1
  have frw : ∀ b ∈ wt, H b = none := fun b hb => G.inv4.hok.fresh (Nat.le_of_lt (above b hb))
  refine ⟨_, isg, fun σ' H' s' pg J => gcx_out G.inv4 (fun b hb => (G.fps b hb).1) J, I6, ?_, rfl, rfl, rfl, fun b hb => ⟨?_, ?_, fun x c e z => ?_⟩⟩
  rotate_left
  · exact Nat.le_of_lt (Nat.lt_of_lt_of_le G.above hb)
  · show b ≠ cenv.locals
    rw [hL]; exact Nat.ne_of_gt (Nat.lt_of_lt_of_le G.above hb)
  · have q := cl (show cenv.cells.lookup x = some c from e)
    rw [z] at q
    exact absurd (Nat.lt_trans q (Nat.lt_of_lt_of_le G.above hb)) (Nat.lt_irrefl _)
  refine seg_gs (Xg := gcx X (Ag.over (gLoop elt tg iter ifs scope pos it cenv) []) s4 H N cenv fp) rfl rfl (by show cenv.scope.isCoroutine = false; rw [hsc]; exact S.co) rfl G.turn (hg _ isg) (ht _ isg) (he _ isg) (fun b hb H' hn => ?_) (fun b hb => ?_)
    (fun b hb hm => ?_) plan rfl lk hmn w I6 (G.turn.keep _ _ _ G.at0 fun b _ o e => k6 b o e) (fun b hb => (G.fps b hb).1.1) frw fun b hb => (hwt b hb).2
  · refine ⟨hn, ?_, fun z => ?_, .inl hb, fun y c e z => ?_, fun p hp => absurd hp (by simp)⟩
    · show b ≠ cenv.locals
      rw [hL]; exact Nat.ne_of_lt (G.fps b hb).2
    · rcases List.mem_cons.mp (G.inv4.stkSub b z) with q | q
      · exact (G.fps b hb).1.2.1 q
      · exact (G.fps b hb).1.2.2.1 q
    · have e : cenv.cells.lookup y = some c := e
      rw [hcenv] at e
      rcases cloFrom_mem (PySem.mem_of_lookup e) with hm | ⟨h1, rfl⟩
      · cases hm
      · obtain ⟨c, hc⟩ := hfree _ h1 rfl
        rw [hc] at z
        exact (G.fps b hb).1.2.2.2.2.1 y c hc z
  · refine ⟨?_, fun z => ?_⟩
    · show b ≠ cenv.locals
      rw [hL]; exact Nat.ne_of_gt (above b hb)
    · obtain ⟨_, o, ho, _⟩ := G.inv4.stack.mem z
      exact absurd (Nat.lt_trans (Heap.lt_size ho) (above b hb)) (Nat.lt_irrefl _)
  · exact absurd (Nat.lt_trans (G.fps b hb).2 (above b hm)) (Nat.lt_irrefl _)

/-- all(elt for tg in iter if ..), any(..): N the block's names, vs the places of its targets -/
def tGen (wi : TI) (P : Addr) (X : Cx) (scope : Scope) (N : List Str) (vs : List Nat) (g : TG) (tt : TT) (te : TE) (go : Bool) : TE := fun σ H Q => wi σ H fun J H1 => TabG H1 P ∧ ∀ H2, Tabbed P H1 H2 → ∃ σ0, Capt X σ scope N σ0 ∧
  ∃ W : Nat → Nat → Hp → Prop, (∃ m, W 0 m H2) ∧ Plan J g tt te vs σ0 (fun _ H => Q (.bl go) H) (fun _ => W) (pBool W go fun H => Q (.bl (!go)) H)

theorem pe_anyall {c P : Addr} {elt tg iter : Expr} {ifs : List Expr} {nm : Str} {p pos gpos : Pos} {scope : Scope} {N : List Str} {vs : List Nat} {k : Nat} {wi : TI} {g : TG} {tt : TT} {te : TE} {go : Bool} {id lp : String} {bf bl : Builtin}
    (hr : Room (k + 3) X.A) (hgl : Gl X nm) (hm : X.mg nm = none) (hb : bootBuiltins nm = some (.builtin id)) (TB : TabB X.base X.mg c P) (hcode : X.env.code = .ref c) (S : GenSc X scope) (hi : PI X tg iter wi)
    (hg : ∀ Xg, IsG X scope N k Xg → PG Xg tg g) (ht : ∀ Xg, IsG X scope N k Xg → PTs Xg ifs tt) (he : ∀ Xg, IsG X scope N k Xg → PE Xg elt te) (hs : ∀ v, genFold iter X.env v = pure v)
    (hse : starEach [.GeneratorExp elt [⟨tg, iter, ifs, 0⟩] scope gpos] X.env = (false, eval (.GeneratorExp elt [⟨tg, iter, ifs, 0⟩] scope gpos) X.env) :: starEach [] X.env)
    (hn : nm ≠ "__name__") (hd : (nm == ("__debug__" : Str)) = false) (hp : plainId lp = true) (hent : entryFor table lp = some bl)
    (run : ∀ (A : Around) (a : Addr) (s : Shared) (Q : Value → Shared → Prop) (E : Value → Shared → Prop) (gi : Nat), s.heap.IsGen a gi → codeAny (model X.prog X.w) A (.builtin lp ⟨[.ref a], []⟩) (fun r s' => match r with | .ok (.ret v) => Q v s' | .ok _ => False | .error e => E e s') s → wpAny (model X.prog X.w) A (call (.builtin id) [.ref a]) Q E s)
    (turn : ∀ {A : Around} {a : Addr} {R : Result → Shared → Prop} (s : Shared), wpAny (model X.prog X.w) A.in1 (pyNext (.ref a)) (fun r s1 => (r = none ∧ R (.ok (.ret (.bool go))) s1) ∨ ∃ c, r = some (.bool c) ∧ if c = go then codeAny (model X.prog X.w) A (.builtin lp ⟨[.ref a], []⟩) R s1 else R (.ok (.ret (.bool (!go)))) s1) (fun _ _ => False) s →
      codeAny (model X.prog X.w) A (.builtin lp ⟨[.ref a], []⟩) R s) :
    PE X (.Call (.Name nm p) [.GeneratorExp elt [⟨tg, iter, ifs, 0⟩] scope gpos] [] pos) (tGen wi P X scope N vs g tt te go) := by
  refine ⟨fun pins s σ H Q I h => ?_⟩
  refine wpAny_Call_Name_kw (ld_blt I hgl hm hb ?_ hn hd)
  refine PyProof.Rows.callWith_builtin1 ?_ hse (by rfl)
  rw [hse]
  show wpAny _ _ (spliced ((false, eval (.GeneratorExp elt [⟨tg, iter, ifs, 0⟩] scope gpos) X.env) :: backTo pos (starEach [] X.env))) _ _ s
  refine Calls.spliced_cons (gen_make hr TB hcode S hi hs I h fun J H2 a gi s4 s5 cenv fp it tn hR G => ?_)
  refine Calls.spliced_nil ?_
  obtain ⟨σ0, hC, W, ⟨m, w0⟩, plan⟩ := hR
  have hr2 : Room (k + 1) X.A.in1.in1 := hr.in1.in1
  have hF : X.A.in1.in1.frames = some X.stack := G.inv4.ok.frames
  have hgl5 : gi < s5.gens.size := (Array.getElem?_eq_some_iff.mp G.gen).1
  have ha : ∀ b ∈ [a], a ≤ b ∧ ∃ o, s5.heap.get? b = some o ∧ ∀ v, o.data ≠ .cell v := fun b hb => by
    rw [List.mem_singleton.mp hb]
    obtain ⟨o, nm', qn, ho, _, hd', _⟩ := G.isg
    exact ⟨Nat.le_refl _, o, ho, fun v z => by rw [hd'] at z; cases z⟩
  obtain ⟨Xg, isg, out, I5, sg, ep, ew, _, _⟩ := G.goes (s6 := s5.setGen gi .running) (wt := [a]) (n := m + 1) (Lk := lkU) (c := ()) S hC hr2 hF hg ht he plan trivial (Nat.lt_succ_self m) w0 (fun _ _ e => e) rfl (allBare_setGen G.bare rfl) ha
  have I5' : Inv Xg [] σ0 H2 s5 := by
    have q := Inv.gens I5 (g' := s5.gens) G.bare
    exact q
  refine run X.A a s5 _ _ gi G.isg ?_
  rw [← ep, ← ew] at sg ⊢
  refine loopG (Xg := Xg) (A := X.A) (go := go) (nm := lp) (a := a) (g := gi) (fp := fp) (σ0 := σ0) (W := W) (Z := fun H => Q (.bl go) H) (ZF := fun H => Q (.bl (!go)) H) hr.hd hr.depth hp hent (fun b hb z => ?_) (fun s hh => by rw [ep, ew] at hh ⊢; exact turn s hh)
    (fun s' H' I' z h' g' hk hg' => ?_) (fun s' H' g' I' z hg' => ?_) (m + 1) (Nat.succ_pos m) s5 G.isg ⟨H2, I5'⟩ ⟨_, G.gen, ⟨rfl, sg⟩⟩
  · have h1 := (G.fps b hb).2
    have h2 := G.above
    rw [z] at h1
    exact absurd (Nat.lt_trans h1 h2) (Nat.lt_irrefl _)
  · exact ⟨.bl go, H', Inv.keptG (t' := s'.toks) (out _ _ _ _ I') hk hg', rfl, z⟩
  · exact ⟨.bl (!go), H', Inv.gens (out _ _ _ _ I') hg', rfl, z⟩

/-! ### tuple(elt for ..) -/
def lkL (S : Addr) : List V → Shared → Prop := fun ys s => ∃ acc cc, s.heap.get? S = some (lstObj acc cc) ∧ Vals ys acc.toList
def pTup (W : List V → Nat → Nat → Hp → Prop) : List V → Nat → Nat → V → Hp → Prop := fun ys i m y H => ys.length < sizeLine ∧ ∃ m', m' < m ∧ W (ys ++ [y]) (i + 1) m' H
theorem extG {Xg : Cx} {A : Around} {S a : Addr} {g : Nat} {fp : List Addr} {σ0 : L2.St} {W : List V → Nat → Nat → Hp → Prop} {Z : List V → Hp → Prop} {R : Result → Shared → Prop} {res : Value}
    (hh : A.handled = none) (hd : A.depth < recursionLimit) (hSa : S ≠ a) (hdis : ∀ b ∈ fp, b ≠ S) (hpn : Xg.pn = []) (hS : Xg.s_0.heap.objs.size ≤ S ∧ S ≠ Xg.env.locals ∧ ∀ x c, Xg.env.cells.lookup x = some c → c ≠ S)
    (hend : ∀ s' H ys acc cc, Inv Xg [] σ0 H s' → Z ys H → s'.heap.get? S = some (lstObj acc cc) → Vals ys acc.toList → H S = none → ∀ h' g', (∀ b o, s'.heap.get? b = some o → h'.get? b = some o) → AllBare g' → R (.ok (.ret res)) { s' with heap := h', gens := g' }) :
    ∀ (n : Nat), 0 < n → ∀ (s : Shared), s.heap.IsGen a g → (∃ H, Inv Xg [] σ0 H s) → (∃ acc cc, s.heap.get? S = some (lstObj acc cc)) →
      (∃ gs, s.gens[g]? = some gs ∧ gs.Goes (model Xg.prog Xg.w) A.in1.in1 (gEnd (lkL S) Xg [a, S] σ0 Z) (gOut (lkL S) Xg [a, S] fp σ0 W (pTup W)) n (.send .none) (s.setGen g .running)) →
      codeAny (model Xg.prog Xg.w) A (.builtin "list.extend.loop" ⟨[.ref S, .ref a, res], []⟩) R s := by
  intro n
  induction n with
  | zero => intro h; omega
  | succ n ih =>
    intro _ s hg ⟨H, I⟩ ⟨acc0, cc0, hS0⟩ ⟨gs, hgs, hgo⟩
    have hgl : g < s.gens.size := (Array.getElem?_eq_some_iff.mp hgs).1
    have hl : s.heap.NoLimit := I.nolimit
    refine codeAny_builtin F.entry_extend_loop ?_
    rw [Around.under_plainId F.plain_extend_loop _]
    show wpAny _ A.in1 (pyNext (.ref a) >>= _) _ _ s
    refine wpAny_bind (wpAny_gsz (n := g + 1) hgl (next_genG (A := A.in1) hh hl hd hg hgs hgo (fun v s₁ gs' hbare hv => ?_) (fun s₁ hp h' hk => ?_) fun e s₁ he => he.elim))
    · intro hsz
      obtain ⟨ys, i, m, x, H1, ⟨acc, cc, e1, rv⟩, hm, I1, rx, ⟨hlen, m', hm', w'⟩, hkp, hfr, cont⟩ := hv
      have hS1 : s₁.heap.get? S = some (lstObj acc cc) := hkp S (by simp) _ e1
      have hsize : acc.size < sizeLine := by
        have q : ys.length = acc.size := by simpa using Vals.length rv
        omega
      have hsz1 : g < s₁.gens.size := by
        have q : (s₁.setGen g gs').gens.size = s₁.gens.size := setGen_size _ _ _
        have hsz' : g + 1 ≤ (s₁.setGen g gs').gens.size := hsz
        omega
      have hb2 : AllBare (s₁.setGen g gs').gens := allBare_setGen I1.bare hbare
      show wpAny _ A.in1 (updateSeq S (·.push v) >>= _) _ _ _
      refine wpAny_bind ?_
      refine wpAny_updateSeq hS1 rfl (wpAny_pure ⟨plainId_quiet F.plain_extend_loop _, ?_⟩) (Nat.le_of_lt hsize) (by show (acc.push v).size ≤ sizeLine + 1; rw [Array.size_push]; omega)
      have keep3 : ∀ b o, b ≠ S → s₁.heap.get? b = some o → (s₁.heap.update S (Obj.mapSeq (·.push v))).get? b = some o := fun b o hbS e => (Heap.get?_update_other _ _ (Ne.symm hbS)).trans e
      have hS2 := Heap.get?_update_self (Obj.mapSeq (·.push v)) hS1 rfl
      have I2 : Inv Xg [] σ0 H1 { s₁.setGen g gs' with heap := s₁.heap.update S (Obj.mapSeq (·.push v)) } := by
        have q := Inv.gens I1 hb2
        exact q.turned (t' := s₁.toks) (fun b o hb e => keep3 b o hb e) (hfr S (by simp)) hS.2.1 (.inr hS.1) hS.2.2 fun p hp => by rw [hpn] at hp; simp at hp
      obtain ⟨o, nm, qn, ho, r⟩ := hg
      have ho1 := keep3 a o (Ne.symm hSa) (hkp a (by simp) o ho)
      refine ih (by simp at hm; omega) { s₁.setGen g gs' with heap := s₁.heap.update S (Obj.mapSeq (·.push v)) } ⟨o, nm, qn, ho1, r⟩ ⟨H1, I2⟩ ⟨_, _, hS2⟩ ⟨gs', setGen_at hsz1, ?_⟩
      refine cont _ (Inv.gens I2 (g' := (({ s₁.setGen g gs' with heap := s₁.heap.update S (Obj.mapSeq (·.push v)) } : Shared).setGen g .running).gens) (allBare_setGen (s := { s₁.setGen g gs' with heap := s₁.heap.update S (Obj.mapSeq (·.push v)) }) hb2 rfl)) (fun b hb o e => keep3 b o (hdis b hb) e) (fun b hb => ?_) (ys ++ [x]) m' ⟨_, _, hS2, ?_⟩ hm' w'
      · rcases List.mem_cons.mp hb with z | z
        · rw [z]
          exact ⟨o, ho1, fun v z => by rw [r.2.1] at z; cases z⟩
        · rw [List.mem_singleton.mp z]
          exact ⟨_, hS2, fun v z => by cases z⟩
      · show Vals (ys ++ [x]) (acc.push v).toList
        rw [Array.toList_push]
        exact rv.append (.cons rx .nil)
    · intro _
      obtain ⟨ys, H1, ⟨acc, cc, e1, rv⟩, I1, z, hkp, hfr⟩ := hp
      exact wpAny_pure (hend s₁ H1 ys acc cc I1 z (hkp S (by simp) _ e1) rv (hfr S (by simp)) h' _ hk (allBare_setGen I1.bare rfl))

/-- the list that is collected from a generator -/
theorem collectG {A : Around} {k m : Nat} {elt tg iter : Expr} {ifs : List Expr} {scope : Scope} {pos : Pos} {J : It} {a gi : Nat} {s4 s5 : Shared} {cenv : Env} {fp : List Addr} {it : Addr} {tn : Nat → Heap → Prop} {N : List Str} {σ0 : L2.St}
    {g : TG} {tt : TT} {te : TE} {vs : List Nat} {Z : List V → Hp → Prop} {W : List V → Nat → Nat → Hp → Prop} {Q : List Value → Shared → Prop} {E : Value → Shared → Prop}
    (G : GNew X pins σ elt tg iter ifs scope pos J H a gi s4 s5 cenv fp it tn) (S : GenSc X scope) (hC : Capt X σ scope N σ0) (hr : Room (k + 4) A) (hF : A.frames = some X.stack)
    (hg : ∀ Xg, IsG X scope N k Xg → PG Xg tg g) (ht : ∀ Xg, IsG X scope N k Xg → PTs Xg ifs tt) (he : ∀ Xg, IsG X scope N k Xg → PE Xg elt te)
    (plan : Plan J g tt te vs σ0 Z W (pTup W)) (w : W [] 0 m H)
    (hQ : ∀ s' H' ys acc, Inv X pins σ H' s' → Z ys H' → Vals ys acc → Q acc s') : wpAny (model X.prog X.w) A (collect (.ref a)) Q E s5 := by
  have hSa : s5.heap.objs.size ≠ a := by
    obtain ⟨o, nm, qn, ho, _⟩ := G.isg
    exact Nat.ne_of_gt (Heap.lt_size ho)
  have hal : a ≤ s5.heap.objs.size := by
    obtain ⟨o, nm, qn, ho, _⟩ := G.isg
    exact Nat.le_of_lt (Heap.lt_size ho)
  have tyG : ∀ {h : Heap}, (∀ b o, s5.heap.get? b = some o → h.get? b = some o) → h.IsGen a gi := fun {h} q => G.isg.keeps q
  unfold collect
  refine wpAny_bind (wpAny_runValue (codeAny_builtin F.entry_proto_collect ?_))
  rw [Around.under_plainId F.plain_proto_collect _]
  show wpAny _ A.in1 (newList [] >>= fun l => again (.builtin "list.__iadd__" ⟨[l, .ref a], []⟩)) _ _ s5
  refine wpAny_bind (wpAny_newObj_type ?_ (by show 0 ≤ sizeLine; exact Nat.zero_le _))
  refine wpAny_pure ⟨plainId_quiet F.plain_list_iadd _, codeAny_builtin F.entry_list_iadd ?_⟩
  rw [Around.under_plainId F.plain_list_iadd _]
  have k1 : ∀ b o, s5.heap.get? b = some o → (s5.heap.push { cls := .type "list", data := .seq ([] : List Value).toArray }).get? b = some o := fun b o e => Heap.get?_push_of_some _ e
  show wpAny _ A.in1 (Builtin.List.listExtendWith (.ref s5.heap.objs.size) (.ref a) (.ref s5.heap.objs.size)) _ _ _
  unfold Builtin.List.listExtendWith
  refine wpAny_bind (wpAny_typeOf (Heap.IsGen.typeIs (s := { s5 with heap := _ }) (tyG k1)) ?_)
  have h1 : Builtin.List.listSameRef (.ref s5.heap.objs.size) (.ref a) = false := by simp [Builtin.List.listSameRef, hSa]
  have h2 : (Value.type "generator" == Value.type "list") = false := by decide
  have h3 : (Value.type "generator" == Value.type "tuple") = false := by decide
  simp only [h1, h2, h3, Bool.or_false, Bool.false_eq_true, if_false]
  refine wpAny_bind (wpAny_pyIter_gen (s := { s5 with heap := _ }) (tyG k1) ?_)
  refine wpAny_bind (wpAny_holding ?_)
  unfold Builtin.List.listLengthHint
  refine wpAny_bind (wpAny_specialOf (Heap.IsGen.typeIs (s := { s5 with heap := _ }) (tyG k1)) F.gen_no_len ?_)
  show wpAny _ A.in1 (specialOf (Value.ref a) (Str.ofString "__length_hint__") >>= _) _ _ _
  refine wpAny_bind (wpAny_specialOf (Heap.IsGen.typeIs (s := { s5 with heap := _ }) (tyG k1)) F.gen_no_hint ?_)
  refine wpAny_pure ?_
  show wpAny _ A.in1 (rule "list.extend.makes-room" >>= fun _ => Builtin.List.listTouch (.ref s5.heap.objs.size) >>= fun _ =>
    again (.builtin "list.extend.loop" ⟨[.ref s5.heap.objs.size, .ref a, .ref s5.heap.objs.size], []⟩)) _ _ _
  refine wpAny_bind (wpAny_rule ?_)
  have hS₁ : (s5.heap.push { cls := .type "list", data := .seq ([] : List Value).toArray }).get? s5.heap.objs.size = some { cls := .type "list", data := .seq ([] : List Value).toArray } := Heap.get?_push_size _ rfl
  refine wpAny_bind ?_
  show wpAny _ A.in1 (updateSeq s5.heap.objs.size (·.push .none) >>= fun _ => updateSeq s5.heap.objs.size (·.pop)) _ _ _
  refine wpAny_bind (wpAny_updateSeq hS₁ rfl ?_)
  have hS₂ := Heap.get?_update_self (Obj.mapSeq (·.push Value.none)) hS₁ rfl
  refine wpAny_updateSeq hS₂ rfl ?_
  have hS₃ := Heap.get?_update_self (Obj.mapSeq (·.pop)) hS₂ rfl
  have oth : ∀ b o, b ≠ s5.heap.objs.size → (s5.heap.push { cls := .type "list", data := .seq ([] : List Value).toArray }).get? b = some o →
      (((s5.heap.push { cls := .type "list", data := .seq ([] : List Value).toArray }).update s5.heap.objs.size (Obj.mapSeq (·.push Value.none))).update s5.heap.objs.size (Obj.mapSeq (·.pop))).get? b = some o :=
    fun b o hb e => (Heap.get?_update_other _ _ (Ne.symm hb)).trans ((Heap.get?_update_other _ _ (Ne.symm hb)).trans e)
  have k6 : ∀ b o, s5.heap.get? b = some o → (((s5.heap.push { cls := .type "list", data := .seq ([] : List Value).toArray }).update s5.heap.objs.size (Obj.mapSeq (·.push Value.none))).update s5.heap.objs.size (Obj.mapSeq (·.pop))).get? b = some o :=
    fun b o e => oth b o (Nat.ne_of_lt (Heap.lt_size e)) (k1 b o e)
  refine wpAny_pure ⟨plainId_quiet F.plain_extend_loop _, ?_⟩
  generalize hh6 : ((s5.heap.push { cls := .type "list", data := .seq ([] : List Value).toArray }).update s5.heap.objs.size (Obj.mapSeq (·.push Value.none))).update s5.heap.objs.size (Obj.mapSeq (·.pop)) = h6 at hS₃ k6 ⊢
  have hS6 : ∃ cc, h6.get? s5.heap.objs.size = some (lstObj #[] cc) := ⟨_, hS₃⟩
  obtain ⟨cc6, hS6⟩ := hS6
  have hwt : ∀ b ∈ [a, s5.heap.objs.size], a ≤ b ∧ ∃ o, h6.get? b = some o ∧ ∀ v, o.data ≠ .cell v := fun b hb => by
    rcases List.mem_cons.mp hb with z | z
    · rw [z]
      obtain ⟨o, nm', qn, ho, _, hd', _⟩ := G.isg
      exact ⟨Nat.le_refl _, o, k6 _ _ ho, fun v z => by rw [hd'] at z; cases z⟩
    · rw [List.mem_singleton.mp z]
      exact ⟨hal, _, hS6, fun v z => by cases z⟩
  have hgl : gi < s5.gens.size := (Array.getElem?_eq_some_iff.mp G.gen).1
  obtain ⟨Xg, isg, out, I5, sg, ep, ew, epn, young⟩ := G.goes (Ag := A.in1.in1) (s6 := ({ s5 with heap := h6 } : Shared).setGen gi .running) (wt := [a, s5.heap.objs.size]) (n := m + 1) (Lk := lkL s5.heap.objs.size) (c := []) S hC (hr.in1.in1.mono (by omega)) hF hg ht he plan
    ⟨#[], cc6, hS6, .nil⟩ (Nat.lt_succ_self m) w k6 rfl (allBare_setGen (s := { s5 with heap := h6 }) G.bare rfl) hwt
  have I6 : Inv Xg [] σ0 H { s5 with heap := h6 } := Inv.gens I5 (g' := s5.gens) G.bare
  rw [← ep, ← ew] at sg ⊢
  refine extG (Xg := Xg) (A := A) (S := s5.heap.objs.size) (a := a) (g := gi) (fp := fp) (σ0 := σ0) (W := W) (Z := Z) (hr.hd) (by have := hr.dp; show A.depth < _; omega) hSa (fun b hb z => ?_) epn (young _ hal) (fun s' H' ys acc cc I' z hS' rv hn h' g' hk hg' => ?_)
    (m + 1) (Nat.succ_pos m) { s5 with heap := h6 } (tyG k6) ⟨H, I6⟩ ⟨_, _, hS6⟩ ⟨_, G.gen, ⟨rfl, sg⟩⟩
  · have q1 := (G.fps b hb).2
    have q2 := G.above
    rw [z] at q1
    exact absurd (Nat.lt_of_lt_of_le (Nat.lt_trans q1 q2) hal) (Nat.lt_irrefl _)
  · show wpAny _ A (load s5.heap.objs.size >>= _) _ _ _
    refine wpAny_bind (wpAny_load (s := { s' with heap := h', gens := g' }) (hk _ _ hS') ?_)
    refine wpAny_pure (hQ _ H' ys acc.toList ?_ z (by simpa using rv))
    exact Inv.keptG (t' := s'.toks) (out _ _ _ _ I') hk hg'

/-- tuple(elt for tg in iter if ..): Z: what holds of the items, of the heap, at the end -/
def tGenT (wi : TI) (P : Addr) (X : Cx) (scope : Scope) (N : List Str) (vs : List Nat) (g : TG) (tt : TT) (te : TE) : TE := fun σ H Q => wi σ H fun J H1 => TabG H1 P ∧ ∀ H2, Tabbed P H1 H2 → ∃ σ0, Capt X σ scope N σ0 ∧
  ∃ W : List V → Nat → Nat → Hp → Prop, (∃ m, W [] 0 m H2) ∧ Plan J g tt te vs σ0 (fun ys H => ys.length ≤ sizeLine ∧ ∀ p, H p = none → Q (.ref p) (upd H p (.tup ys))) W (pTup W)
theorem pe_tupG {c P : Addr} {elt tg iter : Expr} {ifs : List Expr} {nm : Str} {p pos gpos : Pos} {scope : Scope} {N : List Str} {vs : List Nat} {k : Nat} {wi : TI} {g : TG} {tt : TT} {te : TE}
    (hr : Room (k + 7) X.A) (hgl : Gl X nm) (hm : X.mg nm = none) (hb : bootBuiltins nm = some (.type "tuple")) (TB : TabB X.base X.mg c P) (hcode : X.env.code = .ref c) (S : GenSc X scope) (hi : PI X tg iter wi)
    (hg : ∀ Xg, IsG X scope N k Xg → PG Xg tg g) (ht : ∀ Xg, IsG X scope N k Xg → PTs Xg ifs tt) (he : ∀ Xg, IsG X scope N k Xg → PE Xg elt te) (hs : ∀ v, genFold iter X.env v = pure v)
    (hse : starEach [.GeneratorExp elt [⟨tg, iter, ifs, 0⟩] scope gpos] X.env = (false, eval (.GeneratorExp elt [⟨tg, iter, ifs, 0⟩] scope gpos) X.env) :: starEach [] X.env)
    (hn : nm ≠ "__name__") (hd : (nm == ("__debug__" : Str)) = false) :
    PE X (.Call (.Name nm p) [.GeneratorExp elt [⟨tg, iter, ifs, 0⟩] scope gpos] [] pos) (tGenT wi P X scope N vs g tt te) := by
  refine ⟨fun pins s σ H Q I h => ?_⟩
  refine wpAny_Call_Name_kw (ld_blt I hgl hm hb ?_ hn hd)
  refine PyProof.Rows.callWith_type1 ?_ hse rfl
  rw [hse]
  show wpAny _ _ (spliced ((false, eval (.GeneratorExp elt [⟨tg, iter, ifs, 0⟩] scope gpos) X.env) :: backTo pos (starEach [] X.env))) _ _ s
  refine Calls.spliced_cons (gen_make hr TB hcode S hi hs I h fun J H2 a gi s4 s5 cenv fp it tn hR G => ?_)
  refine Calls.spliced_nil ?_
  obtain ⟨σ0, hC, W, ⟨m, w0⟩, plan⟩ := hR
  have hty : ∀ s : Shared, s.heap.IsGen a gi → s.TypeIs (.ref a) "generator" := fun s h => h.typeIs
  refine callType_codes (Q₁ := fun obj s₁ => s₁.TypeIs obj "tuple" ∧ EP X pins σ Q obj s₁) F.called_tuple (F.typeCall_tuple_1 _) F.entry_object_init ?_ fun obj s₁ h₁ => ?_
  · refine codeAny_of_tree ?_
    show wpAny _ X.A.in1.in1 (do checkBuiltinCall "tuple.__new__" ⟨[.type "tuple", .ref a], []⟩; again (.builtin "tuple.__new__" ⟨[.type "tuple", .ref a], []⟩)) _ _ s5
    refine wpAny_bind (wpAny_of_eq (F.newCall_tuple_1 _) (wpAny_pure ⟨plainId_quiet PySem.F.plain_tuple_new _, codeAny_builtin F.entry_tuple_new ?_⟩))
    rw [Around.under_plainId PySem.F.plain_tuple_new _]
    have hsub := sub_tuple_self
    have hinit := init_tuple_lookup
    have hmh := madeHere_tuple
    have hTI := hty s5 G.isg
    wp_walk using wpAny_typeOf hTI, collectG (k := k) (m := m) G S hC (hr.in1.in1.mono (by omega)) G.inv4.ok.frames hg ht he plan w0
    intro s' H' ys acc I' z rv
    show wpAny _ _ (Builtin.Tuple.tupleExact acc.toArray >>= fun v => ret v) _ _ _
    unfold Builtin.Tuple.tupleExact
    have hz : acc.length ≤ sizeLine := by rw [← rv.length]; exact z.1
    refine wpAny_bind (wpAny_newObj_type ?_ (by show acc.toArray.size ≤ sizeLine; simpa using hz))
    refine wpAny_pure ?_
    have hf : H' s'.heap.objs.size = none := I'.hok.fresh (Nat.le_refl _)
    refine ⟨⟨_, Heap.get?_push_size _ rfl, rfl⟩, .ref s'.heap.objs.size, upd H' s'.heap.objs.size (.tup ys), I'.laid (t' := s'.toks) (fun b u e => Heap.get?_push_of_some _ e) (Nat.le_refl _) ?_, rfl, z.2 _ hf⟩
    exact ⟨z.1, acc, rv, ⟨_, Heap.get?_push_size _ rfl, rfl, 0, rfl⟩⟩
  · exact ⟨h₁.1, F.args_object_init_2 obj _, object_init_meets F.called_tuple.init.lookup F.called_tuple.made (by decide) X.prog X.w X.A.in1 _ s₁ ⟨h₁.1, rfl, h₁.2⟩⟩
end
end MP
set_option linter.all false
set_option maxRecDepth 100000
/-! A small language over data: its evaluator. -/
namespace MP
open PySem

abbrev D := PyData
/-- what a slot or a field holds: data that never changes again, or a list, a dict of its own -/
inductive B where
  | d (x : D)
  | lst (xs : List D)
  | dct (kvs : List (D × D))
inductive O where
  | b (x : B)
  | ins (c : Str) (fs : List (Str × B))
def B.toD : B → D
  | .d x => x
  | .lst xs => .list xs
  | .dct kvs => .dict kvs
def O.toD : O → Option D
  | .b x => some x.toD
  | .ins _ _ => none
abbrev Env' := List (Option O)
abbrev dat (d : D) : O := .b (.d d)

inductive Bop where | add | sub | mul | fdiv | mod
inductive Cop where | eq | ne | lt | le | gt | ge | inn | notIn
inductive Ty where | int | bool | tuple | list | str
inductive Bi where | len | tuple | list | sum | min | max | int | repr | str
inductive Gk where | all | any | tuple
/-- targets -/
inductive Tg where
  | nm (i : Nat)
  | t1 (a : Tg)
  | cons (a : Tg) (r : Tg)

mutual
inductive M where
  | cst (d : D)
  | glo (x : Str) (d : D)
  | var (i : Nat)
  | bor (i : Nat)
  | fld (cl : Str) (i : Nat) (f : Str)
  | fix (cl : Str) (i : Nat) (f : Str) (j : Nat)
  | mcall (cl m : Str) (f i : Nat) (xs : Ms)
  | new (cl : Str) (f : Nat) (xs : Ms)
  | dct1 (a b : M)
  | kcall (fx m : Str) (a : M) (ents : List (Str × (Str × Nat))) (xs : Ms)
  | gcd (xs : Ms)
  | getDN (i : Nat) (a : M)
  | inD (n : Bool) (a : M) (i : Nat)
  | getD (i : Nat) (a : M)
  | lenset (a : M)
  | rev (a : M)
  | strr (a b : M)
  | mov (i : Nat)
  | nul
  | bin (o : Bop) (a b : M)
  | neg (a : M)
  | cmp (o : Cop) (a b : M)
  | cmp2 (o p : Cop) (a b c : M)
  | isN (n : Bool) (a : M)
  | not (a : M)
  | and (xs : Ms)
  | or (xs : Ms)
  | ife (c a b : M)
  | tup (xs : Ms)
  | lst (xs : Ms)
  | dct0
  | idx (a i : M)
  | slc (a lo hi : M)
  | call (f : Nat) (xs : Ms)
  | bi (o : Bi) (a : M)
  | isi (t : Ty) (a : M)
  | lc (own : List Nat) (tg : Tg) (it : Itm) (cs : Ms) (elt : M)
  | gen (g : Gk) (N : List Str) (cap : List (Option Nat)) (own : List Nat) (tg : Tg) (it : Itm) (cs : Ms) (elt : M)
inductive Ms where
  | nil
  | cons (a : M) (r : Ms)
inductive Itm where
  | dat (a : M)
  | rng (a : M)
  | rng2 (a b : M)
  | zip (a b : M)
  | enm (a : M)
end
mutual
inductive Sm where
  | set (i : Nat) (m : M)
  | seti (i : Nat) (ix m : M)
  | augi (i : Nat) (o : Bop) (ix m : M)
  | aug (i : Nat) (o : Bop) (m : M)
  | unp (tg : Tg) (m : M)
  | par (is : List Nat) (xs : Ms)
  | app (i : Nat) (m : M)
  | fset (cl : Str) (i : Nat) (f : Str) (m : M)
  | funp (cl : Str) (i : Nat) (f g : Str) (m : M)
  | faug (cl : Str) (i : Nat) (f : Str) (o : Bop) (j k : Nat)
  | dput (i : Nat) (ix m : M)
  | ex (m : M)
  | ret (m : M)
  | retN
  | ife (c : M) (a b : Ss)
  | forr (tg : Tg) (it : Itm) (b : Ss)
  | whl (c : M) (b : Ss)
  | pss
  | brk
  | cnt
inductive Ss where
  | nil
  | cons (a : Sm) (r : Ss)
end

/-! ### operations on data -/
def listLen : D → Option Nat
  | .list xs => some xs.length
  | .tuple xs => some xs.length
  | .str x => some x.length
  | _ => none
def binD (o : Bop) (a b : D) : Option O :=
  match o, a, b with
  | .add, .int i, .int j => some (dat (.int (i + j)))
  | .add, .str x, .str y => if x.length + y.length ≤ sizeLine then some (dat (.str (x ++ y))) else none
  | .add, .list xs, .list ys => if xs.length + ys.length ≤ sizeLine then some (.b (.lst (xs ++ ys))) else none
  | .add, .tuple xs, .tuple ys => if xs.length + ys.length ≤ sizeLine then some (dat (.tuple (xs ++ ys))) else none
  | .sub, .int i, .int j => some (dat (.int (i - j)))
  | .mul, .int i, .int j => if (-(2 ^ 64) < j ∧ j < 2 ^ 64) ∨ i.natAbs.log2 + j.natAbs.log2 < 1000000 then some (dat (.int (i * j))) else none
  | .mul, .list xs, .int k => if -(2 ^ 63) ≤ k ∧ k < 2 ^ 63 ∧ xs.length * k.toNat ≤ sizeLine then some (.b (.lst (List.replicate k.toNat xs).flatten)) else none
  | .mul, .tuple xs, .int k => if xs ≠ [] ∧ xs.length ≤ 1000 ∧ 0 ≤ k ∧ k ≤ 1000 then some (dat (.tuple (List.replicate k.toNat xs).flatten)) else none
  | .fdiv, .int i, .int j => if 0 < j ∧ j.natAbs.log2 < 9000 then some (dat (.int (i / j))) else none
  | .mod, .int i, .int j => if 0 < j then some (dat (.int (i % j))) else none
  | _, _, _ => none
def flatD : D → Bool
  | .none => true
  | .bool _ => true
  | .int _ => true
  | .str _ => true
  | _ => false
def eqOk (a b : D) : Bool :=
  match a, b with
  | .str _, .str _ => true
  | .int _, .int _ => true
  | _, _ => SeqAt.shaped a && SeqAt.shaped b
def cmpD (o : Cop) (a b : D) : Option Bool :=
  match o with
  | .eq => if eqOk a b = true then some (PyData.eqv a b) else none
  | .ne => if eqOk a b = true then some (!PyData.eqv a b) else none
  | .lt => match a, b with | .int i, .int j => some (decide (i < j)) | _, _ => none
  | .le => match a, b with | .int i, .int j => some (decide (i ≤ j)) | _, _ => none
  | .gt => match a, b with | .int i, .int j => some (decide (j < i)) | _, _ => none
  | .ge => match a, b with | .int i, .int j => some (decide (j ≤ i)) | _, _ => none
  | .inn => match b with
    | .list ds => if flatD a = true ∧ ds.all flatD = true then some (ds.any fun z => PyData.eqv z a) else none
    | .tuple ds => if flatD a = true ∧ ds.all flatD = true then some (ds.any fun z => PyData.eqv z a) else none
    | _ => none
  | .notIn => match b with
    | .list ds => if flatD a = true ∧ ds.all flatD = true then some (!ds.any fun z => PyData.eqv z a) else none
    | .tuple ds => if flatD a = true ∧ ds.all flatD = true then some (!ds.any fun z => PyData.eqv z a) else none
    | _ => none
/-- the i-th item, i of any sign -/
def atD (xs : List D) (i : Int) : Option D := L2.atI xs i
def idxD (a i : D) : Option D :=
  match a, i with
  | .list xs, .int k => atD xs k
  | .tuple xs, .int k => atD xs k
  | _, _ => none
def cutD (xs : List D) (lo hi : Option Int) : List D := (xs.drop (HT.sIx xs.length 0 lo)).take (HT.sIx xs.length xs.length hi - HT.sIx xs.length 0 lo)
def slcD (a : D) (lo hi : Option Int) : Option O :=
  match a with
  | .list xs => some (.b (.lst (cutD xs lo hi)))
  | .tuple xs => some (dat (.tuple (cutD xs lo hi)))
  | _ => none
def intsD : List D → Option (List Int)
  | [] => some []
  | .int i :: r => (intsD r).map (i :: ·)
  | _ :: _ => none
def minI : List Int → Option Int
  | [] => none
  | x :: r => some (r.foldl min x)
def maxI : List Int → Option Int
  | [] => none
  | x :: r => some (r.foldl max x)
def biD (o : Bi) (a : D) : Option O :=
  match o, a with
  | .len, .list xs => some (dat (.int xs.length))
  | .len, .tuple xs => some (dat (.int xs.length))
  | .len, .str x => if x.length ≤ sizeLine then some (dat (.int x.length)) else none
  | .tuple, .list xs => some (dat (.tuple xs))
  | .tuple, .tuple xs => some (dat (.tuple xs))
  | .list, .list xs => some (.b (.lst xs))
  | .list, .tuple xs => some (.b (.lst xs))
  | .sum, .list xs => (intsD xs).map fun ns => dat (.int ns.sum)
  | .min, .list xs => (intsD xs).bind fun ns => (minI ns).map fun m => dat (.int m)
  | .max, .list xs => (intsD xs).bind fun ns => (maxI ns).map fun m => dat (.int m)
  | .min, .tuple xs => (intsD xs).bind fun ns => (minI ns).map fun m => dat (.int m)
  | .max, .tuple xs => (intsD xs).bind fun ns => (maxI ns).map fun m => dat (.int m)
  | .int, .int i => some (dat (.int i))
  | .str, .int i => if i.natAbs.log2 < 1920 then some (dat (.str (toString i))) else none
  | .repr, .dict [] => some (dat (.str (PyData.shown (.dict []))))
  | .repr, d => if d.showable = true ∧ d.hasDict = false ∧ SeqAt.shaped d = true ∧ d.depth ≤ 60 ∧ d.shown.length ≤ sizeLine then some (dat (.str d.shown)) else none
  | _, _ => none
def isiD : D → Ty → Bool
  | .int _, .int => true
  | .bool _, .int => true
  | .bool _, .bool => true
  | .tuple _, .tuple => true
  | .list _, .list => true
  | .str _, .str => true
  | _, _ => false
def boolD : D → Option Bool
  | .bool c => some c
  | _ => none

/-! ### slots -/
def getB (e : Env') (i : Nat) : Option D :=
  match e[i]? with
  | some (some (.b x)) => some x.toD
  | _ => none
def getF (e : Env') (i : Nat) (f : Str) : Option D :=
  match e[i]? with
  | some (some (.ins _ fs)) => (fs.lookup f).map B.toD
  | _ => none
/-- the field of an object -/
def getFB (e : Env') (cl : Str) (i : Nat) (f : Str) : Option B :=
  match e[i]? with
  | some (some (.ins c fs)) => if c = cl then fs.lookup f else none
  | _ => none
def putFD (f : Str) (b : B) : List (Str × B) → List (Str × B)
  | [] => [(f, b)]
  | (g, x) :: r => if g = f then (g, b) :: r else (g, x) :: putFD f b r
def isKey : D → Bool
  | .int _ => true
  | .str _ => true
  | _ => false
def keyEq : D → D → Bool
  | .int i, .int j => decide (i = j)
  | .str x, .str y => decide (x = y)
  | _, _ => false
def lookK (kvs : List (D × D)) (k : D) : Option D := (kvs.find? fun q => keyEq q.1 k).map (·.2)
def putKD (kvs : List (D × D)) (k v : D) : List (D × D) :=
  if (kvs.any fun q => keyEq q.1 k) = true then kvs.map (fun q => if keyEq q.1 k = true then (q.1, v) else q) else kvs ++ [(k, v)]
def dctAt (e : Env') (i : Nat) : Option (List (D × D)) :=
  match e[i]? with
  | some (some (.b (.dct xs))) => some xs
  | _ => none
/-- how many different ones -/
def nubI (ns : List Int) : List Int := ns.foldl (fun acc k => if (acc.any fun z => z == k) = true then acc else acc ++ [k]) []
def putO (e : Env') (i : Nat) (o : O) : Env' := e.set i (some o)
def bind : Tg → D → Env' → Option Env'
  | .nm i, d, e => if i < e.length then some (putO e i (dat d)) else none
  | .t1 a, d, e => match d with
    | .tuple [x] => bind a x e
    | _ => none
  | .cons a r, d, e => match d with
    | .tuple (x :: y :: xs) => (bind a x e).bind fun e' => bind r (.tuple (y :: xs)) e'
    | _ => none
def putAll : Env' → List Nat → List O → Env'
  | e, i :: is, o :: os => putAll (putO e i o) is os
  | e, _, _ => e
def wipe' (e : Env') (own : List Nat) : Env' := own.foldr (fun v e => e.set v none) e

abbrev CallF := Nat → List O → Option (List (Option O) × O)
def lift (r : Option (O × Env')) : Option (D × Env') := r.bind fun p => p.1.toD.map fun d => (d, p.2)
/-- what a borrowed operand holds now -/
def now (m : M) (d : D) (e : Env') : Option D :=
  match m with
  | .bor i => getB e i
  | _ => some d
/-- what is walked does not change any more -/
def stillM (m : M) (e : Env') : Env' :=
  match m with
  | .bor i => match e[i]? with
    | some (some (.b x)) => e.set i (some (dat x.toD))
    | _ => e
  | _ => e
def rngD (lo : Int) (n : Nat) : List D := (List.range n).map fun (i : Nat) => .int (lo + (i : Int))
def seqD : D → Option (List D)
  | .list xs => some xs
  | .tuple xs => some xs
  | _ => none
/-- what was handed over comes back -/
def putBack : List (Option Nat) → List (Option O) → Env' → Option Env'
  | [], _, e => some e
  | none :: r, _ :: fs, e => putBack r fs e
  | some i :: r, some o :: fs, e => putBack r fs (putO e i o)
  | _, _, _ => none
/-- the comprehension's turns -/
def lcLoop (own : List Nat) (turn : D → Env' → Option (Option D × Env')) : List D → Env' → List D → Option (List D × Env')
  | [], e, acc => some (acc, wipe' e own)
  | x :: r, e, acc => (turn x (wipe' e own)).bind fun p => match p.1 with
    | some y => if acc.length < sizeLine then lcLoop own turn r p.2 (acc ++ [y]) else none
    | none => lcLoop own turn r p.2 acc
/-- a block of a generator expression: the outer environment does not change -/
def genAll (go : Bool) (turn : D → Option (Option D)) : List D → Option Bool
  | [] => some go
  | x :: r => (turn x).bind fun p => match p with
    | some (.bool c) => if c = go then genAll go turn r else some (!go)
    | some _ => none
    | none => genAll go turn r
def genTup (turn : D → Option (Option D)) : List D → List D → Option (List D)
  | [], acc => some acc
  | x :: r, acc => (turn x).bind fun p => match p with
    | some y => if acc.length < sizeLine then genTup turn r (acc ++ [y]) else none
    | none => genTup turn r acc
/-- the captured names -/
def capt (e : Env') : List (Option Nat) → Option Env'
  | [] => some []
  | none :: r => (capt e r).map (none :: ·)
  | some j :: r => match e[j]? with
    | some (some (.b (.d x))) => (capt e r).map (some (dat x) :: ·)
    | _ => none

mutual
def ev (C : CallF) : M → Env' → Option (O × Env')
  | .cst d, e => some (dat d, e)
  | .glo _ d, e => some (dat d, e)
  | .var i, e => (getB e i).map fun d => (dat d, stillM (.bor i) e)
  | .bor _, _ => none
  | .fld cl i f, e => match getFB e cl i f with
    | some (.d x) => some (dat x, e)
    | _ => none
  | .fix cl i f j, e => (getFB e cl i f).bind fun b => (getB e j).bind fun x => (idxD b.toD x).map fun r => (dat r, e)
  | .mcall cl m f i xs, e => match e[i]? with
    | some (some (.ins cl' fs)) => if cl' = cl ∧ fs.lookup m = none then (evas C xs e).bind fun q => match q.2[i]? with
      | some (some o) => if ((some i :: q.1.2).filterMap id).Nodup then (C f (o :: q.1.1)).bind fun r => (putBack (some i :: q.1.2) r.1 q.2).map fun e' => (r.2, e') else none
      | _ => none
      else none
    | _ => none
  | .new cl f xs, e => (evs C xs e).bind fun q => match C f (.ins cl [] :: q.1.map dat) with
    | some (some (.ins cl' fs) :: _, .b (.d .none)) => if cl' = cl then some (.ins cl fs, q.2) else none
    | _ => none
  | .kcall _ _ a ents xs, e => (lift (ev C a e)).bind fun p => match p.1 with
    | .str w => (ents.lookup w).bind fun q => (evas C xs p.2).bind fun z => if (z.1.2.filterMap id).Nodup then (C q.2 (.ins q.1 [] :: z.1.1)).bind fun r => match r.1 with
        | some _ :: tl => (putBack z.1.2 tl z.2).map fun e' => (r.2, e')
        | _ => none
      else none
    | _ => none
  | .gcd xs, e => (evs C xs e).bind fun p => match p.1 with
    | [.int i, .int j] => some (dat (.int ((Nat.gcd i.natAbs j.natAbs : Nat) : Int)), p.2)
    | _ => none
  | .getDN i a, e => if (dctAt e i).isSome = true then (lift (ev C a e)).bind fun p => (dctAt p.2 i).bind fun kvs => if isKey p.1 = true then some (dat ((lookK kvs p.1).getD .none), p.2) else none else none
  | .dct1 a b, e => (lift (ev C a e)).bind fun p => (lift (ev C b p.2)).bind fun q => if isKey p.1 = true then some (.b (.dct [(p.1, q.1)]), q.2) else none
  | .inD n a i, e => (lift (ev C a e)).bind fun p => (dctAt p.2 i).bind fun kvs => if isKey p.1 = true then some (dat (.bool (n != (lookK kvs p.1).isSome)), p.2) else none
  | .getD i a, e => if (dctAt e i).isSome = true then (lift (ev C a e)).bind fun p => (dctAt p.2 i).bind fun kvs => if isKey p.1 = true then (lookK kvs p.1).map fun r => (dat r, p.2) else none else none
  | .lenset a, e => (evb C a e).bind fun p => match p.1 with
    | .list xs => (intsD xs).bind fun ns => if ns.length ≤ 1000 then some (dat (.int (nubI ns).length), p.2) else none
    | _ => none
  | .rev a, e => (evb C a e).bind fun p => match p.1 with
    | .tuple xs => if xs.length ≤ 1000 then some (dat (.tuple xs.reverse), p.2) else none
    | _ => none
  | .strr a b, e => (lift (ev C a e)).bind fun p => (lift (ev C b p.2)).bind fun q => match p.1, q.1 with
    | .int n, .int m => if 0 ≤ n ∧ n ≤ 1000 ∧ 0 ≤ m ∧ m ≤ 1000 then some (.b (.lst (rngD 0 n.toNat ++ rngD 0 m.toNat)), q.2) else none
    | _, _ => none
  | .nul, _ => none
  | .mov i, e => match e[i]? with
    | some (some o) => some (o, e.set i none)
    | _ => none
  | .bin o a b, e => (evb C a e).bind fun p => (evb C b p.2).bind fun q => (now a p.1 q.2).bind fun x => (binD o x q.1).map fun r => (r, q.2)
  | .neg a, e => (lift (ev C a e)).bind fun p => match p.1 with
    | .int i => some (dat (.int (-i)), p.2)
    | _ => none
  | .cmp o a b, e => (evb C a e).bind fun p => (evb C b p.2).bind fun q => (now a p.1 q.2).bind fun x => (cmpD o x q.1).map fun r => (dat (.bool r), q.2)
  | .cmp2 o o' a b c, e => (lift (ev C a e)).bind fun p => (lift (ev C b p.2)).bind fun q => (cmpD o p.1 q.1).bind fun r =>
    if r = true then (lift (ev C c q.2)).bind fun z => (cmpD o' q.1 z.1).map fun r' => (dat (.bool r'), z.2) else some (dat (.bool false), q.2)
  | .isN n a, e => (evb C a e).bind fun p => match p.1 with
    | .none => some (dat (.bool (!n)), p.2)
    | _ => some (dat (.bool n), p.2)
  | .not a, e => (lift (ev C a e)).bind fun p => (boolD p.1).map fun c => (dat (.bool (!c)), p.2)
  | .and xs, e => (evAO C true xs e).map fun p => (dat (.bool p.1), p.2)
  | .or xs, e => (evAO C false xs e).map fun p => (dat (.bool p.1), p.2)
  | .ife c a b, e => (lift (ev C c e)).bind fun p => (boolD p.1).bind fun k => if k = true then ev C a p.2 else ev C b p.2
  | .tup xs, e => (evs C xs e).bind fun p => if p.1.length ≤ sizeLine then some (dat (.tuple p.1), p.2) else none
  | .lst xs, e => (evs C xs e).bind fun p => if p.1.length ≤ sizeLine then some (.b (.lst p.1), p.2) else none
  | .dct0, e => some (.b (.dct []), e)
  | .idx a i, e => (evb C a e).bind fun p => (lift (ev C i p.2)).bind fun q => (now a p.1 q.2).bind fun x => (idxD x q.1).map fun r => (dat r, q.2)
  | .slc a lo hi, e => (evb C a e).bind fun p => (evo C lo p.2).bind fun q => (evo C hi q.2).bind fun z => (now a p.1 z.2).bind fun x => (slcD x q.1 z.1).map fun r => (r, z.2)
  | .call f xs, e => (evas C xs e).bind fun p => if (p.1.2.filterMap id).Nodup then (C f p.1.1).bind fun r => (putBack p.1.2 r.1 p.2).map fun e' => (r.2, e') else none
  | .bi o a, e => (evb C a e).bind fun p => (biD o p.1).map fun r => (r, p.2)
  | .isi t a, e => (evb C a e).map fun p => (dat (.bool (isiD p.1 t)), p.2)
  | .lc own tg it cs elt, e => (evi C it e).bind fun p =>
    (lcLoop own (fun x e => (bind tg x e).bind fun e1 => (evAO C true cs e1).bind fun c => if c.1 = true then (lift (ev C elt c.2)).map fun y => (some y.1, y.2) else some (none, c.2)) p.1 p.2 []).map fun q => (.b (.lst q.1), q.2)
  | .gen g N cap own tg it cs elt, e => (evi C it e).bind fun p => (capt p.2 cap).bind fun e0 =>
    let turn : D → Option (Option D) := fun x => (bind tg x e0).bind fun e1 => (evAO C true cs e1).bind fun c => if c.1 = true then (lift (ev C elt c.2)).map fun y => some y.1 else some none
    match g with
    | .all => (genAll true turn p.1).map fun r => (dat (.bool r), p.2)
    | .any => (genAll false turn p.1).map fun r => (dat (.bool r), p.2)
    | .tuple => (genTup turn p.1 []).map fun r => (dat (.tuple r), p.2)
/-- a borrowed operand -/
def evb (C : CallF) : M → Env' → Option (D × Env')
  | .bor i, e => (getB e i).map fun d => (d, e)
  | m, e => lift (ev C m e)
/-- an optional bound of a slice -/
def evo (C : CallF) : M → Env' → Option (Option Int × Env')
  | .nul, e => some (none, e)
  | m, e => (lift (ev C m e)).bind fun p => match p.1 with
    | .int i => some (some i, p.2)
    | _ => none
def evs (C : CallF) : Ms → Env' → Option (List D × Env')
  | .nil, e => some ([], e)
  | .cons a r, e => (lift (ev C a e)).bind fun p => (evs C r p.2).map fun q => (p.1 :: q.1, q.2)
def evOs (C : CallF) : Ms → Env' → Option (List O × Env')
  | .nil, e => some ([], e)
  | .cons a r, e => (ev C a e).bind fun p => (evOs C r p.2).map fun q => (p.1 :: q.1, q.2)
/-- arguments: a borrowed slot is handed over, and comes back -/
def evas (C : CallF) : Ms → Env' → Option ((List O × List (Option Nat)) × Env')
  | .nil, e => some (([], []), e)
  | .cons (.bor i) r, e => if (e[i]?.join).isSome = true then (evas C r e).bind fun q => match q.2[i]? with
    | some (some o) => some ((o :: q.1.1, some i :: q.1.2), q.2)
    | _ => none
    else none
  | .cons a r, e => (lift (ev C a e)).bind fun p => (evas C r p.2).map fun q => ((dat p.1 :: q.1.1, none :: q.1.2), q.2)
/-- and (go = true), or (go = false), of truth values -/
def evAO (C : CallF) (go : Bool) : Ms → Env' → Option (Bool × Env')
  | .nil, e => some (go, e)
  | .cons a r, e => (lift (ev C a e)).bind fun p => (boolD p.1).bind fun c => if c = go then evAO C go r p.2 else some (!go, p.2)
def evi (C : CallF) : Itm → Env' → Option (List D × Env')
  | .dat a, e => (evb C a e).bind fun p => (seqD p.1).map fun xs => (xs, stillM a p.2)
  | .rng a, e => (lift (ev C a e)).bind fun p => match p.1 with
    | .int n => if -(2 ^ 62) ≤ n ∧ n < 2 ^ 62 then some (rngD 0 n.toNat, p.2) else none
    | _ => none
  | .rng2 a b, e => (lift (ev C a e)).bind fun p => (lift (ev C b p.2)).bind fun q => match p.1, q.1 with
    | .int i, .int j => if -(2 ^ 62) ≤ i ∧ i < 2 ^ 62 ∧ -(2 ^ 62) ≤ j ∧ j < 2 ^ 62 then some (rngD i (j - i).toNat, q.2) else none
    | _, _ => none
  | .zip a b, e => (evb C a e).bind fun p => (evb C b p.2).bind fun q => (now a p.1 q.2).bind fun x => match x, q.1 with
    | .list xs, .list ys => some ((xs.zip ys).map fun z => .tuple [z.1, z.2], stillM b (stillM a q.2))
    | .tuple xs, .tuple ys => some ((xs.zip ys).map fun z => .tuple [z.1, z.2], stillM b (stillM a q.2))
    | .list xs, .tuple ys => some ((xs.zip ys).map fun z => .tuple [z.1, z.2], stillM b (stillM a q.2))
    | _, _ => none
  | .enm a, e => (evb C a e).bind fun p => (seqD p.1).map fun xs => (xs.zipIdx.map fun z => .tuple [.int z.2, z.1], stillM a p.2)
end


/-! ### statements -/
inductive Fl where
  | nx | bk | ct
  | rt (o : O)
abbrev Out := Option (Fl × Env')
/-- a for's turns -/
def forLoop (turn : D → Env' → Out) : List D → Env' → Out
  | [], e => some (.nx, e)
  | x :: r, e => (turn x e).bind fun p => match p.1 with
    | .nx => forLoop turn r p.2
    | .ct => forLoop turn r p.2
    | .bk => some (.nx, p.2)
    | .rt o => some (.rt o, p.2)
/-- a while's turns: n bounds them -/
def whlLoop (test : Env' → Option (Bool × Env')) (turn : Env' → Out) : Nat → Env' → Out
  | 0, _ => none
  | n + 1, e => (test e).bind fun t => if t.1 = true then (turn t.2).bind fun p => match p.1 with
      | .nx => whlLoop test turn n p.2
      | .ct => whlLoop test turn n p.2
      | .bk => some (.nx, p.2)
      | .rt o => some (.rt o, p.2)
    else some (.nx, t.2)
/-- .. whatever bound serves -/
noncomputable def whl' (test : Env' → Option (Bool × Env')) (turn : Env' → Out) (e : Env') : Out := by
  classical exact if h : ∃ n r, whlLoop test turn n e = some r then whlLoop test turn h.choose e else none
def noIns : O → Bool
  | .b _ => true
  | .ins _ _ => false
def lstAt (e : Env') (i : Nat) : Option (List D) :=
  match e[i]? with
  | some (some (.b (.lst xs))) => some xs
  | _ => none
def intOf : D → Option Int
  | .int i => some i
  | _ => none
/-- a op= b -/
def augD (o : Bop) (a b : D) : Option D :=
  match o, a, b with
  | .add, .int i, .int j => some (.int (i + j))
  | .sub, .int i, .int j => some (.int (i - j))
  | _, _, _ => none
def getV (e : Env') (i : Nat) : Option D :=
  match e[i]? with
  | some (some (.b (.d x))) => some x
  | _ => none
def tst (C : CallF) (c : M) (e : Env') : Option (Bool × Env') := (lift (ev C c e)).bind fun p => (boolD p.1).map fun k => (k, p.2)
mutual
noncomputable def evS (C : CallF) : Sm → Env' → Out
  | .set i m, e => (ev C m e).bind fun p => if i < p.2.length then some (.nx, putO p.2 i p.1) else none
  | .seti i ix m, e => if (lstAt e i).isSome = true then (lift (ev C m e)).bind fun p => (lift (ev C ix p.2)).bind fun q => (lstAt q.2 i).bind fun xs => (intOf q.1).bind fun k => (L2.ixN xs.length k).map fun j => (.nx, putO q.2 i (.b (.lst (xs.set j p.1)))) else none
  | .augi i o ix m, e => if (lstAt e i).isSome = true then (lift (ev C ix e)).bind fun p => (lstAt p.2 i).bind fun xs => (intOf p.1).bind fun k => (atD xs k).bind fun old => (lift (ev C m p.2)).bind fun q => (lstAt q.2 i).bind fun ys =>
    (augD o old q.1).bind fun z => (L2.ixN ys.length k).map fun j => (.nx, putO q.2 i (.b (.lst (ys.set j z)))) else none
  | .aug i o m, e => (getV e i).bind fun x => (lift (ev C m e)).bind fun p => (augD o x p.1).map fun r => (.nx, putO p.2 i (dat r))
  | .unp tg m, e => (lift (ev C m e)).bind fun p => (bind tg p.1 p.2).map fun e' => (.nx, e')
  | .par is xs, e => (evOs C xs e).bind fun p => if p.1.length = is.length ∧ (∀ i ∈ is, i < p.2.length) ∧ (∀ o ∈ p.1, noIns o = true) then some (.nx, putAll p.2 is p.1) else none
  | .app i m, e => if (lstAt e i).isSome = true then (lift (ev C m e)).bind fun p => (lstAt p.2 i).bind fun xs => if xs.length < sizeLine then some (.nx, putO p.2 i (.b (.lst (xs ++ [p.1])))) else none else none
  | .fset cl i f m, e => (ev C m e).bind fun p => match p.2[i]?, p.1 with
    | some (some (.ins cl' fs)), .b b => if cl' = cl ∧ fs.length < 800 then some (.nx, putO p.2 i (.ins cl (putFD f b fs))) else none
    | _, _ => none
  | .funp cl i f g m, e => (lift (ev C m e)).bind fun p => match p.2[i]?, p.1 with
    | some (some (.ins cl' fs)), .tuple [x, y] => if cl' = cl ∧ fs.length < 800 then some (.nx, putO p.2 i (.ins cl (putFD g (.d y) (putFD f (.d x) fs)))) else none
    | _, _ => none
  | .faug cl i f o j k, e => match e[i]?, getFB e cl i f with
    | some (some (.ins _ fs)), some (.lst xs) => (getB e j).bind fun x => (intOf x).bind fun z => (atD xs z).bind fun old => (getB e k).bind fun y => (augD o old y).bind fun w => (L2.ixN xs.length z).map fun q => (.nx, putO e i (.ins cl (putFD f (.lst (xs.set q w)) fs)))
    | _, _ => none
  | .dput i ix m, e => if (dctAt e i).isSome = true then (lift (ev C m e)).bind fun p => (lift (ev C ix p.2)).bind fun q => (dctAt q.2 i).bind fun kvs => if isKey q.1 = true ∧ kvs.length < 1000 then some (.nx, putO q.2 i (.b (.dct (putKD kvs q.1 p.1)))) else none else none
  | .ex m, e => (ev C m e).map fun p => (.nx, p.2)
  | .ret m, e => (ev C m e).map fun p => (.rt p.1, p.2)
  | .retN, e => some (.rt (dat .none), e)
  | .ife c a b, e => (tst C c e).bind fun p => if p.1 = true then evSs C a p.2 else evSs C b p.2
  | .forr tg it b, e => (evi C it e).bind fun p => forLoop (fun x e => (bind tg x e).bind fun e' => evSs C b e') p.1 p.2
  | .whl c b, e => whl' (tst C c) (evSs C b) e
  | .pss, e => some (.nx, e)
  | .brk, e => some (.bk, e)
  | .cnt, e => some (.ct, e)
noncomputable def evSs (C : CallF) : Ss → Env' → Out
  | .nil, e => some (.nx, e)
  | .cons a r, e => (evS C a e).bind fun p => match p.1 with
    | .nx => evSs C r p.2
    | .bk => some (.bk, p.2)
    | .ct => some (.ct, p.2)
    | .rt o => some (.rt o, p.2)
end

/-! ### defs -/
structure Fn where
  /-- the number of parameters, of names -/
  np : Nat
  nn : Nat
  /-- what may change, and comes back -/
  io : List Nat
  body : Ss
def isDat : O → Bool
  | .b (.d _) => true
  | _ => false
def back (io : List Nat) (np : Nat) (e : Env') : List (Option O) := (List.range np).map fun j => if j ∈ io then (e[j]?).join else none
noncomputable def callF (f : Fn) (C : CallF) (xs : List O) : Option (List (Option O) × O) :=
  if xs.length = f.np then (evSs C f.body (xs.map some ++ List.replicate (f.nn - f.np) none)).bind fun p => match p.1 with
    | .nx => some (back f.io f.np p.2, dat .none)
    | .rt o => some (back f.io f.np p.2, o)
    | _ => none
  else none
/-- calls k deep -/
noncomputable def run (tab : List Fn) : Nat → CallF
  | 0 => fun _ _ => none
  | k + 1 => fun f xs => match tab[f]? with
    | some fn => callF fn (run tab k) xs
    | none => none
end MP
set_option linter.all false
set_option maxRecDepth 100000
set_option maxHeartbeats 1000000
/-! What the head looks at. -/
namespace MP
open PySem PySem.Spec PyProof.Rows L2
/-- the program's names -/
structure Pg where
  fns : List (Option Str × Str)
  blts : List Str
  gls : List (Str × Int)
  /-- the classes, with the names of their fields -/
  cls : List (Str × List Str)
  /-- the defs kind_of, with their tables; the names of math.gcd -/
  kinds : List (Str × List (Str × Str)) := []
  gcds : List Str := []
/-- a def: its names, what it may make (g: generators), its text, its term -/
structure DI where
  /-- the class whose method it is -/
  own : Option Str
  nm : Str
  ps : List Str
  N : List Str
  g : Nat
  params : Arguments
  body : List Stmt
  scope : Scope
  fn : Fn
def qualOf (d : DI) : Str := match d.own with
  | none => d.nm
  | some cl => cl ++ Str.ofString "." ++ d.nm
def atOf (d : DI) : Str × Option Str := match d.own with
  | none => (d.nm, none)
  | some cl => (cl, some d.nm)
def BindOk (d : DI) : Prop := ∀ (kV doc pm : Value) (an : Option Addr) (cdv ct : Value) (us : List Value), us.length = d.ps.length → bindArgs (PySem.W.fnOf d.nm (qualOf d) d.params d.body d.scope .none kV doc pm an cdv ct) ⟨us, []⟩ = pure (d.ps.zip us)
def dd (d : DI) : He.DefD := ⟨atOf d, d.nm, qualOf d, d.params, d.body, d.scope, [], []⟩
def faD (d : DI) : List He.Fa := match d.own with
  | none => [.glo d.nm]
  | some cl => [.cls cl, .meth cl d.nm, .glo cl] ++ if d.nm == Str.ofString "__init__" then [.mkr cl] else []
def faOf (p : Pg) (ds : List DI) : List He.Fa := ds.flatMap faD ++ p.blts.map .free ++ (p.gls.map fun q => .int q.1 q.2) ++ (p.cls.flatMap fun q => .cls q.1 :: q.2.map (.noat q.1 ·)) ++ p.kinds.flatMap fun q => q.2.map fun r => .glo r.2
def tfOf (ds : List DI) : List He.Defn := (ds.filter fun d => decide (0 < d.g)).map atOf
/-- classes without __init__, math.gcd -/
def exB (p : Pg) (K : PySem.W.Frag) : Bool := (p.kinds.all fun q => q.2.all fun r => PySem.W.makesIn K (He.ga K r.2) && He.eqO (PySem.W.findIn K (.ref (He.ga K r.2)) "__init__") (some (some (.builtin "object.__init__"))) && PySem.W.keepIn K (.ref (He.ga K r.2))) &&
  p.gcds.all fun x => He.eqO (PySem.W.nsIn K mainGlobals x) (some (some (.builtin "math.gcd")))
/-- all that the head looks at -/
def allD (ds : List DI) (kd : List (DI × List (Str × Str))) (dl : DI) : List DI := kd.map (·.1) ++ (ds ++ [dl])
/-- the module's names that are looked at -/
def rootsY (ns : List Str) (o : Obj) : List Addr := match o.data with
  | .dict es _ => es.toList.flatMap fun e => match e.key with
    | .str x _ => if ns.contains x = true then He.refV e.val else []
    | _ => []
  | _ => []
def stepY (g : Addr → Option Obj) (as : List Addr) : List Addr := as.flatMap fun a => match g a with
  | some o => He.refsD o
  | none => []
def levY (g : Addr → Option Obj) : Nat → List Addr → List Addr
  | 0, l => l
  | n + 1, l => l ++ levY g n (stepY g l)
/-- those of n steps -/
def asY (ns : List Str) (n : Nat) (g : Addr → Option Obj) : List Addr := mainGlobals :: levY g n (match g mainGlobals with
  | some o => rootsY ns o
  | none => [])
section
variable {as : (Addr → Option Obj) → List Addr} {fa : List He.Fa} {fn : List He.DefD} {tf : List He.Defn} {ex : PySem.W.Frag → Bool} {w : World} {h : Heap}
def obsY (as : (Addr → Option Obj) → List Addr) (fa : List He.Fa) (fn : List He.DefD) (tf : List He.Defn) (ex : PySem.W.Frag → Bool) (g : Addr → Option Obj) : He.AlX :=
  let K := He.frT g (as g)
  (He.obsT fa fn [] K, ex K && He.tabsB g tf K)
theorem saysY (e : obsY as fa fn tf ex h.get? = He.valX fn [] w) : He.SaysX fa fn [] tf ex w h (He.frT h.get? (as h.get?)) := by
  generalize hK : He.frT h.get? (as h.get?) = K at *
  have e : ((He.obsT fa fn [] (He.frT h.get? (as h.get?)), ex (He.frT h.get? (as h.get?)) && He.tabsB h.get? tf (He.frT h.get? (as h.get?))) : He.AlX) = He.valX fn [] w := e
  rw [hK] at e
  obtain ⟨e1, e2⟩ := Prod.mk.inj e
  rw [Bool.and_eq_true] at e2
  have tab : ∀ p ∈ tf, PySem.W.codeHdIn K (He.cT K p).1 (He.cT K p).2 = true ∧ ∃ o, h.get? (He.cT K p).2 = some o ∧ He.emptyTab o = true := fun p hp => by
    have t := List.all_eq_true.mp e2.2 p hp
    rw [Bool.and_eq_true] at t
    refine ⟨t.1, ?_⟩
    have t2 := t.2
    split at t2
    · next o q => exact ⟨o, q, t2⟩
    · cases t2
  refine ⟨e1, e2.1, fun p hp => (tab p hp).1, fun p hp => ?_, fun p hp => ?_⟩
  · obtain ⟨_, o, q, z⟩ := tab p hp
    rw [← hK] at q ⊢
    exact He.frT_none q z
  · obtain ⟨_, o, q, z⟩ := tab p hp
    rw [q, He.emptyTab_eq z]
def hookY (as : (Addr → Option Obj) → List Addr) (fa : List He.Fa) (fn : List He.DefD) (tf : List He.Defn) (ex : PySem.W.Frag → Bool) : PySem.W.Hook :=
  { α := He.AlX, obs := fun s => obsY as fa fn tf ex s.heap.get?, val := fun w => He.valX fn [] w, says := fun w h => ∃ K : PySem.W.Frag, K.In h ∧ He.SaysX fa fn [] tf ex w h K
    of := fun _ _ e => ⟨_, He.frT_in, saysY e⟩
    keeps := fun _ _ _ ⟨K, hK, c⟩ k => ⟨K, PySem.W.Frag.In.keeps hK k, ⟨c.t, c.more, c.hd, c.out, fun p hp => k _ _ (c.empty p hp)⟩⟩ }
theorem obsY_eq {g : Addr → Option Obj} {s : Shared} (h : ∀ a, g a = s.heap.get? a) : obsY as fa fn tf ex g = (hookY as fa fn tf ex).obs s := by
  obtain rfl : g = s.heap.get? := funext h
  rfl
theorem map3 {α β γ δ : Type} {o : Option α} {f : α → β} {g : α → γ} {k : α → δ} {a : β} {b : γ} {c : δ} (h1 : o.map f = some a) (h2 : o.map g = some b) (h3 : o.map k = some c) : o.map (fun x => (f x, g x, k x)) = some (a, b, c) := by
  cases o with
  | none => cases h1
  | some x =>
    injection h1 with h1
    injection h2 with h2
    injection h3 with h3
    subst h1 h2 h3
    rfl
end
end MP
set_option Elab.async false
set_option linter.all false
set_option maxRecDepth 100000
set_option maxHeartbeats 0
namespace K57
open PySem PySem.Spec PyProof.Rows L2 MP
def top (i : Nat) : Stmt := PySem.Challenge.pw_flowwright_k57_whole_bars_across.main.body.getD i (.Pass ⟨0, 0, 0, 0⟩)
def cb (s : Stmt) (j : Nat) : Stmt := match s with
  | .ClassDef _ _ _ b _ _ _ _ _ _ _ => b.getD j (.Pass ⟨0, 0, 0, 0⟩)
  | _ => .Pass ⟨0, 0, 0, 0⟩
def pg : Pg := ⟨[(none, ("is_integer" : PySem.Str)), (none, ("is_within" : PySem.Str)), (none, ("is_row" : PySem.Str)), (none, ("is_row_within" : PySem.Str)), (none, ("is_worded" : PySem.Str)), (none, ("is_places" : PySem.Str)), (none, ("is_ascending" : PySem.Str)), (none, ("crossing" : PySem.Str)), (none, ("is_quotient" : PySem.Str)), (none, ("quotient" : PySem.Str)), (none, ("plus" : PySem.Str)), (none, ("minus" : PySem.Str)), (none, ("times" : PySem.Str)), (none, ("is_less" : PySem.Str)), (none, ("total" : PySem.Str)), (none, ("is_quotient_row" : PySem.Str)), (none, ("is_crowd" : PySem.Str)), (some ("Task" : PySem.Str), ("judge" : PySem.Str)), (none, ("is_cut" : PySem.Str)), (some ("Flow" : PySem.Str), ("judge" : PySem.Str)), (some ("Need" : PySem.Str), ("judge" : PySem.Str)), (none, ("least_product" : PySem.Str)), (none, ("dot" : PySem.Str)), (some ("Linear" : PySem.Str), ("judge" : PySem.Str)), (none, ("far_from" : PySem.Str)), (some ("Orders" : PySem.Str), ("judge" : PySem.Str)), (none, ("judge" : PySem.Str)), (none, ("_law_same" : PySem.Str)), (none, ("_law_pool" : PySem.Str)), (none, ("_law_spread" : PySem.Str)), (none, ("_law_draw" : PySem.Str)), (none, ("_law_subsets" : PySem.Str)), (none, ("_law_net" : PySem.Str)), (none, ("_law_ends" : PySem.Str)), (none, ("_law_orders" : PySem.Str))], ["all", "any", "bool", "int", "isinstance", "len", "list", "range", "str", "sum", "tuple", "zip"], [], [("Task", []), ("Flow", []), ("Need", []), ("Linear", []), ("Orders", [])], [("kind_of", [("flow", "Flow"), ("need", "Need"), ("cost", "Cost"), ("ways", "Ways"), ("places", "Places"), ("transport", "Transport"), ("season", "Season"), ("choice", "Choice"), ("turned", "Turned"), ("grid", "Grid"), ("time", "Time"), ("levels", "Levels"), ("gain", "Gain"), ("orders", "Orders"), ("task", "Task"), ("linear", "Linear")])], ["gcd"]⟩
def b_is_integer : Ss := (.cons (.ret (.and (.cons (.isi .int (.bor 0)) (.cons (.not (.isi .bool (.bor 0))) .nil)))) .nil)
def d_is_integer : DI := ⟨none, "is_integer", ["value"], ["value"], 0, defArgs (top 2), defBody (top 2), defScope (top 2), ⟨1, 1, [], b_is_integer⟩⟩
def b_is_within : Ss := (.cons (.ret (.and (.cons (.call 0 (.cons (.var 0) .nil)) (.cons (.cmp2 .le .le (.var 1) (.var 0) (.var 2)) .nil)))) .nil)
def d_is_within : DI := ⟨none, "is_within", ["value", "low", "high"], ["value", "low", "high"], 0, defArgs (top 3), defBody (top 3), defScope (top 3), ⟨3, 3, [], b_is_within⟩⟩
def b_is_row : Ss := (.cons (.ret (.and (.cons (.isi .tuple (.bor 0)) (.cons (.cmp .eq (.bi .len (.bor 0)) (.bor 1)) (.cons (.gen .all ["one"] [none] [0] (.nm 0) (.dat (.bor 0)) .nil (.call 0 (.cons (.var 0) .nil))) .nil))))) .nil)
def d_is_row : DI := ⟨none, "is_row", ["value", "length"], ["value", "length"], 1, defArgs (top 4), defBody (top 4), defScope (top 4), ⟨2, 2, [], b_is_row⟩⟩
def b_is_row_within : Ss := (.cons (.ret (.and (.cons (.call 2 (.cons (.var 0) (.cons (.var 1) .nil))) (.cons (.gen .all ["one", "high", "low"] [none, some 3, some 2] [0] (.nm 0) (.dat (.bor 0)) .nil (.cmp2 .le .le (.var 2) (.var 0) (.var 1))) .nil)))) .nil)
def d_is_row_within : DI := ⟨none, "is_row_within", ["value", "length", "low", "high"], ["value", "length", "low", "high"], 1, defArgs (top 5), defBody (top 5), defScope (top 5), ⟨4, 4, [], b_is_row_within⟩⟩
def b_is_worded : Ss := (.cons (.ife (.or (.cons (.not (.isi .tuple (.bor 0))) (.cons (.cmp .ne (.bi .len (.bor 0)) (.bor 2)) .nil))) (.cons (.ret (.cst (.bool false))) .nil) .nil) (.cons (.ret (.and (.cons (.isi .str (.idx (.bor 0) (.cst (.int 0)))) (.cons (.cmp .eq (.idx (.bor 0) (.cst (.int 0))) (.bor 1)) .nil)))) .nil))
def d_is_worded : DI := ⟨none, "is_worded", ["value", "word", "length"], ["value", "word", "length"], 0, defArgs (top 6), defBody (top 6), defScope (top 6), ⟨3, 3, [], b_is_worded⟩⟩
def b_is_places : Ss := (.cons (.ife (.or (.cons (.not (.isi .tuple (.bor 0))) (.cons (.not (.gen .all ["one", "number"] [none, some 1] [0] (.nm 0) (.dat (.bor 0)) .nil (.call 1 (.cons (.var 0) (.cons (.cst (.int 0)) (.cons (.bin .sub (.bor 1) (.cst (.int 1))) .nil)))))) .nil))) (.cons (.ret (.cst (.bool false))) .nil) .nil) (.cons (.ret (.call 6 (.cons (.var 0) .nil))) .nil))
def d_is_places : DI := ⟨none, "is_places", ["value", "number"], ["value", "number"], 1, defArgs (top 7), defBody (top 7), defScope (top 7), ⟨2, 2, [], b_is_places⟩⟩
def b_is_ascending : Ss := (.cons (.ret (.gen .all ["k", "row"] [none, some 0] [0] (.nm 0) (.rng (.bin .sub (.bi .len (.bor 0)) (.cst (.int 1)))) .nil (.cmp .lt (.idx (.bor 1) (.var 0)) (.idx (.bor 1) (.bin .add (.bor 0) (.cst (.int 1))))))) .nil)
def d_is_ascending : DI := ⟨none, "is_ascending", ["row"], ["row"], 1, defArgs (top 8), defBody (top 8), defScope (top 8), ⟨1, 1, [], b_is_ascending⟩⟩
def b_crossing : Ss := (.cons (.ret (.bi .sum (.lc [2] (.nm 2) (.dat (.idx (.bor 0) (.cst (.int 1)))) (.cons (.and (.cons (.cmp .inn (.idx (.bor 2) (.cst (.int 0))) (.bor 1)) (.cons (.cmp .notIn (.idx (.bor 2) (.cst (.int 1))) (.bor 1)) .nil))) .nil) (.idx (.bor 2) (.cst (.int 2)))))) .nil)
def d_crossing : DI := ⟨none, "crossing", ["net", "side"], ["net", "side", "arc"], 0, defArgs (top 18), defBody (top 18), defScope (top 18), ⟨2, 3, [], b_crossing⟩⟩
def b_is_quotient : Ss := (.cons (.ret (.and (.cons (.call 2 (.cons (.var 0) (.cons (.cst (.int 2)) .nil))) (.cons (.cmp .gt (.idx (.bor 0) (.cst (.int 1))) (.cst (.int 0))) (.cons (.cmp .eq (.gcd (.cons (.idx (.bor 0) (.cst (.int 0))) (.cons (.idx (.bor 0) (.cst (.int 1))) .nil))) (.cst (.int 1))) .nil))))) .nil)
def d_is_quotient : DI := ⟨none, "is_quotient", ["value"], ["value"], 0, defArgs (top 26), defBody (top 26), defScope (top 26), ⟨1, 1, [], b_is_quotient⟩⟩
def b_quotient : Ss := (.cons (.set 2 (.ife (.cmp .gt (.bor 1) (.cst (.int 0))) (.gcd (.cons (.var 0) (.cons (.var 1) .nil))) (.neg (.gcd (.cons (.var 0) (.cons (.var 1) .nil)))))) (.cons (.ret (.tup (.cons (.bin .fdiv (.bor 0) (.bor 2)) (.cons (.bin .fdiv (.bor 1) (.bor 2)) .nil)))) .nil))
def d_quotient : DI := ⟨none, "quotient", ["a", "b"], ["a", "b", "common"], 0, defArgs (top 27), defBody (top 27), defScope (top 27), ⟨2, 3, [], b_quotient⟩⟩
def b_plus : Ss := (.cons (.ret (.call 9 (.cons (.bin .add (.bin .mul (.idx (.bor 0) (.cst (.int 0))) (.idx (.bor 1) (.cst (.int 1)))) (.bin .mul (.idx (.bor 1) (.cst (.int 0))) (.idx (.bor 0) (.cst (.int 1))))) (.cons (.bin .mul (.idx (.bor 0) (.cst (.int 1))) (.idx (.bor 1) (.cst (.int 1)))) .nil)))) .nil)
def d_plus : DI := ⟨none, "plus", ["one", "two"], ["one", "two"], 0, defArgs (top 28), defBody (top 28), defScope (top 28), ⟨2, 2, [], b_plus⟩⟩
def b_minus : Ss := (.cons (.ret (.call 9 (.cons (.bin .sub (.bin .mul (.idx (.bor 0) (.cst (.int 0))) (.idx (.bor 1) (.cst (.int 1)))) (.bin .mul (.idx (.bor 1) (.cst (.int 0))) (.idx (.bor 0) (.cst (.int 1))))) (.cons (.bin .mul (.idx (.bor 0) (.cst (.int 1))) (.idx (.bor 1) (.cst (.int 1)))) .nil)))) .nil)
def d_minus : DI := ⟨none, "minus", ["one", "two"], ["one", "two"], 0, defArgs (top 29), defBody (top 29), defScope (top 29), ⟨2, 2, [], b_minus⟩⟩
def b_times : Ss := (.cons (.ret (.call 9 (.cons (.bin .mul (.idx (.bor 0) (.cst (.int 0))) (.idx (.bor 1) (.cst (.int 0)))) (.cons (.bin .mul (.idx (.bor 0) (.cst (.int 1))) (.idx (.bor 1) (.cst (.int 1)))) .nil)))) .nil)
def d_times : DI := ⟨none, "times", ["one", "two"], ["one", "two"], 0, defArgs (top 30), defBody (top 30), defScope (top 30), ⟨2, 2, [], b_times⟩⟩
def b_is_less : Ss := (.cons (.ret (.cmp .lt (.bin .mul (.idx (.bor 0) (.cst (.int 0))) (.idx (.bor 1) (.cst (.int 1)))) (.bin .mul (.idx (.bor 1) (.cst (.int 0))) (.idx (.bor 0) (.cst (.int 1)))))) .nil)
def d_is_less : DI := ⟨none, "is_less", ["one", "two"], ["one", "two"], 0, defArgs (top 32), defBody (top 32), defScope (top 32), ⟨2, 2, [], b_is_less⟩⟩
def b_total : Ss := (.cons (.set 1 (.tup (.cons (.cst (.int 0)) (.cons (.cst (.int 1)) .nil)))) (.cons (.forr (.nm 2) (.dat (.bor 0)) (.cons (.set 1 (.call 10 (.cons (.var 1) (.cons (.var 2) .nil)))) .nil)) (.cons (.ret (.mov 1)) .nil)))
def d_total : DI := ⟨none, "total", ["row"], ["row", "found", "one"], 0, defArgs (top 33), defBody (top 33), defScope (top 33), ⟨1, 3, [], b_total⟩⟩
def b_is_quotient_row : Ss := (.cons (.ret (.and (.cons (.isi .tuple (.bor 0)) (.cons (.cmp .eq (.bi .len (.bor 0)) (.bor 1)) (.cons (.gen .all ["one"] [none] [0] (.nm 0) (.dat (.bor 0)) .nil (.call 8 (.cons (.var 0) .nil))) .nil))))) .nil)
def d_is_quotient_row : DI := ⟨none, "is_quotient_row", ["value", "length"], ["value", "length"], 1, defArgs (top 34), defBody (top 34), defScope (top 34), ⟨2, 2, [], b_is_quotient_row⟩⟩
def b_is_crowd : Ss := (.cons (.set 3 (.bi .sum (.lc [4] (.nm 4) (.dat (.bor 0)) (.cons (.and (.cons (.cmp .notIn (.idx (.bor 4) (.cst (.int 0))) (.bor 2)) (.cons (.cmp .inn (.idx (.bor 4) (.cst (.int 1))) (.bor 2)) .nil))) .nil) (.idx (.bor 4) (.cst (.int 3)))))) (.cons (.set 5 (.bi .sum (.lc [4] (.nm 4) (.dat (.bor 0)) (.cons (.and (.cons (.cmp .inn (.idx (.bor 4) (.cst (.int 0))) (.bor 2)) (.cons (.cmp .notIn (.idx (.bor 4) (.cst (.int 1))) (.bor 2)) .nil))) .nil) (.idx (.bor 4) (.cst (.int 2)))))) (.cons (.ret (.cmp .gt (.bi .sum (.lc [6] (.nm 6) (.dat (.bor 2)) .nil (.idx (.bor 1) (.var 6)))) (.bin .sub (.bor 3) (.bor 5)))) .nil)))
def d_is_crowd : DI := ⟨none, "is_crowd", ["arcs", "needs", "side"], ["arcs", "needs", "side", "inside", "arc", "outside", "v"], 0, defArgs (top 39), defBody (top 39), defScope (top 39), ⟨3, 7, [], b_is_crowd⟩⟩
def b_Task_judge : Ss := (.cons (.unp (.cons (.nm 3) (.cons (.nm 4) (.cons (.nm 5) (.t1 (.nm 6))))) (.var 1)) (.cons (.ife (.call 4 (.cons (.var 2) (.cons (.cst (.str "row")) (.cons (.cst (.int 2)) .nil)))) (.cons (.set 7 (.idx (.bor 2) (.cst (.int 1)))) (.cons (.ife (.or (.cons (.not (.call 2 (.cons (.var 7) (.cons (.bi .len (.bor 4)) .nil)))) (.cons (.not (.gen .all ["amount", "arc"] [none, none] [0, 1] (.cons (.nm 0) (.t1 (.nm 1))) (.zip (.bor 7) (.bor 4)) .nil (.cmp2 .le .le (.idx (.bor 1) (.cst (.int 2))) (.var 0) (.idx (.bor 1) (.cst (.int 3)))))) .nil))) (.cons (.ret (.cst (.bool false))) .nil) .nil) (.cons (.ret (.and (.cons (.cmp .eq .nul (.bor 5)) (.cons (.or (.cons (.isN false (.bor 6)) (.cons (.cmp .le .nul (.bor 6)) .nil))) .nil)))) .nil))) .nil) (.cons (.ife (.call 4 (.cons (.var 2) (.cons (.cst (.str "crowd")) (.cons (.cst (.int 2)) .nil)))) (.cons (.ret (.and (.cons (.call 5 (.cons (.idx (.bor 2) (.cst (.int 1))) (.cons (.var 3) .nil))) (.cons (.call 16 (.cons (.var 4) (.cons (.var 5) (.cons (.idx (.bor 2) (.cst (.int 1))) .nil)))) .nil)))) .nil) .nil) (.cons (.ife (.or (.cons (.isN false (.bor 6)) (.cons (.not (.call 4 (.cons (.var 2) (.cons (.cst (.str "prices")) (.cons (.cst (.int 2)) .nil))))) (.cons (.not (.call 2 (.cons (.idx (.bor 2) (.cst (.int 1))) (.cons (.var 3) .nil)))) .nil)))) (.cons (.ret (.cst (.bool false))) .nil) .nil) (.cons (.ret (.cmp .gt .nul (.bor 6))) .nil)))))
def d_Task_judge : DI := ⟨some "Task", "judge", ["self", "data", "value"], ["self", "data", "value", "n", "arcs", "needs", "bound", "row"], 1, defArgs (cb (top 45) 4), defBody (cb (top 45) 4), defScope (cb (top 45) 4), ⟨3, 8, [0], b_Task_judge⟩⟩
def b_is_cut : Ss := (.cons (.ret (.and (.cons (.call 5 (.cons (.var 4) (.cons (.idx (.bor 0) (.cst (.int 0))) .nil))) (.cons (.cmp .inn (.bor 1) (.bor 4)) (.cons (.cmp .notIn (.bor 2) (.bor 4)) (.cons (.cmp .lt (.call 7 (.cons (.var 0) (.cons (.var 4) .nil))) (.bor 3)) .nil)))))) .nil)
def d_is_cut : DI := ⟨none, "is_cut", ["net", "s", "t", "bound", "side"], ["net", "s", "t", "bound", "side"], 0, defArgs (top 54), defBody (top 54), defScope (top 54), ⟨5, 5, [], b_is_cut⟩⟩
def b_Flow_judge : Ss := (.cons (.unp (.cons (.nm 3) (.cons (.nm 4) (.cons (.nm 5) (.t1 (.nm 6))))) (.var 1)) (.cons (.ife (.call 4 (.cons (.var 2) (.cons (.cst (.str "flow")) (.cons (.cst (.int 2)) .nil)))) (.cons (.ret (.and (.cons .nul (.cons (.cmp .ge .nul (.bor 6)) .nil)))) .nil) .nil) (.cons (.ret (.and (.cons (.call 4 (.cons (.var 2) (.cons (.cst (.str "cut")) (.cons (.cst (.int 2)) .nil)))) (.cons (.call 18 (.cons (.var 3) (.cons (.var 4) (.cons (.var 5) (.cons (.var 6) (.cons (.idx (.bor 2) (.cst (.int 1))) .nil)))))) .nil)))) .nil)))
def d_Flow_judge : DI := ⟨some "Flow", "judge", ["self", "data", "value"], ["self", "data", "value", "net", "s", "t", "bound"], 0, defArgs (cb (top 55) 3), defBody (cb (top 55) 3), defScope (cb (top 55) 3), ⟨3, 7, [0], b_Flow_judge⟩⟩
def b_Need_judge : Ss := (.cons (.unp (.cons (.cons (.nm 3) (.t1 (.nm 4))) (.t1 (.nm 5))) (.var 1)) (.cons (.ife (.call 4 (.cons (.var 2) (.cons (.cst (.str "crowd")) (.cons (.cst (.int 2)) .nil)))) (.cons (.ret (.and (.cons (.call 5 (.cons (.idx (.bor 2) (.cst (.int 1))) (.cons (.var 3) .nil))) (.cons (.call 16 (.cons (.var 4) (.cons (.var 5) (.cons (.idx (.bor 2) (.cst (.int 1))) .nil)))) .nil)))) .nil) .nil) (.cons (.ife (.or (.cons (.not (.call 4 (.cons (.var 2) (.cons (.cst (.str "row")) (.cons (.cst (.int 2)) .nil))))) (.cons (.not (.call 2 (.cons (.idx (.bor 2) (.cst (.int 1))) (.cons (.bi .len (.bor 4)) .nil)))) .nil))) (.cons (.ret (.cst (.bool false))) .nil) .nil) (.cons (.set 6 (.bin .mul (.lst (.cons (.cst (.int 0)) .nil)) (.bor 3))) (.cons (.forr (.cons (.nm 7) (.t1 (.nm 8))) (.zip (.bor 4) (.idx (.bor 2) (.cst (.int 1)))) (.cons (.ife (.not (.cmp2 .le .le (.idx (.bor 7) (.cst (.int 2))) (.var 8) (.idx (.bor 7) (.cst (.int 3))))) (.cons (.ret (.cst (.bool false))) .nil) .nil) (.cons (.augi 6 .sub (.idx (.bor 7) (.cst (.int 0))) (.var 8)) (.cons (.augi 6 .add (.idx (.bor 7) (.cst (.int 1))) (.var 8)) .nil)))) (.cons (.ret (.cmp .eq (.bi .tuple (.bor 6)) (.bor 5))) .nil))))))
def d_Need_judge : DI := ⟨some "Need", "judge", ["self", "data", "value"], ["self", "data", "value", "n", "arcs", "needs", "found", "arc", "amount"], 0, defArgs (cb (top 56) 3), defBody (cb (top 56) 3), defScope (cb (top 56) 3), ⟨3, 9, [0], b_Need_judge⟩⟩
def b_least_product : Ss := (.cons (.par [3, 4] (.cons (.call 12 (.cons (.tup (.cons (.var 0) (.cons (.cst (.int 1)) .nil))) (.cons (.var 2) .nil))) (.cons (.call 12 (.cons (.tup (.cons (.var 1) (.cons (.cst (.int 1)) .nil))) (.cons (.var 2) .nil))) .nil))) (.cons (.ret (.ife (.call 13 (.cons (.var 3) (.cons (.var 4) .nil))) (.var 3) (.var 4))) .nil))
def d_least_product : DI := ⟨none, "least_product", ["low", "high", "factor"], ["low", "high", "factor", "one", "two"], 0, defArgs (top 85), defBody (top 85), defScope (top 85), ⟨3, 5, [], b_least_product⟩⟩
def b_dot : Ss := (.cons (.ret (.call 14 (.cons (.lc [2, 3] (.cons (.nm 2) (.t1 (.nm 3))) (.zip (.bor 0) (.bor 1)) (.cons (.cmp .ne (.bor 2) (.cst (.int 0))) .nil) (.call 12 (.cons (.tup (.cons (.var 2) (.cons (.cst (.int 1)) .nil))) (.cons (.var 3) .nil)))) .nil))) .nil)
def d_dot : DI := ⟨none, "dot", ["row", "point"], ["row", "point", "number", "one"], 0, defArgs (top 86), defBody (top 86), defScope (top 86), ⟨2, 4, [], b_dot⟩⟩
def b_Linear_judge : Ss := (.cons (.unp (.cons (.nm 3) (.cons (.nm 4) (.cons (.nm 5) (.cons (.nm 6) (.cons (.nm 7) (.t1 (.nm 8))))))) (.var 1)) (.cons (.ife (.call 4 (.cons (.var 2) (.cons (.cst (.str "point")) (.cons (.cst (.int 2)) .nil)))) (.cons (.ret .nul) .nil) .nil) (.cons (.ife (.or (.cons (.not (.call 4 (.cons (.var 2) (.cons (.cst (.str "weights")) (.cons (.cst (.int 3)) .nil))))) (.cons (.not (.call 15 (.cons (.idx (.bor 2) (.cst (.int 1))) (.cons (.bi .len (.bor 3)) .nil)))) (.cons (.not (.call 8 (.cons (.idx (.bor 2) (.cst (.int 2))) .nil))) .nil)))) (.cons (.ret (.cst (.bool false))) .nil) .nil) (.cons (.set 9 (.idx (.bor 2) (.cst (.int 2)))) (.cons (.ife (.or (.cons (.cmp .lt (.idx (.bor 9) (.cst (.int 0))) (.cst (.int 0))) (.cons (.and (.cons (.isN false (.bor 8)) (.cons (.cmp .ne (.idx (.bor 9) (.cst (.int 0))) (.cst (.int 0))) .nil))) .nil))) (.cons (.ret (.cst (.bool false))) .nil) .nil) (.cons (.set 10 (.call 22 (.cons (.var 4) (.cons (.idx (.bor 2) (.cst (.int 1))) .nil)))) (.cons (.forr (.nm 11) (.rng (.bi .len (.bor 5))) (.cons (.set 12 (.call 11 (.cons (.call 12 (.cons (.var 9) (.cons (.tup (.cons (.idx (.bor 7) (.var 11)) (.cons (.cst (.int 1)) .nil))) .nil))) (.cons (.call 22 (.cons (.lc [13] (.nm 13) (.dat (.bor 3)) .nil (.idx (.bor 13) (.var 11))) (.cons (.idx (.bor 2) (.cst (.int 1))) .nil))) .nil)))) (.cons (.set 10 (.call 10 (.cons (.var 10) (.cons (.call 21 (.cons (.idx (.bor 5) (.var 11)) (.cons (.idx (.bor 6) (.var 11)) (.cons (.var 12) .nil)))) .nil)))) .nil))) (.cons (.ret (.call 13 (.cons (.ife (.isN false (.bor 8)) (.tup (.cons (.cst (.int 0)) (.cons (.cst (.int 1)) .nil))) (.call 12 (.cons (.var 9) (.cons (.tup (.cons (.var 8) (.cons (.cst (.int 1)) .nil))) .nil)))) (.cons (.var 10) .nil)))) .nil))))))))
def d_Linear_judge : DI := ⟨some "Linear", "judge", ["self", "data", "value"], ["self", "data", "value", "rows", "due", "lows", "highs", "costs", "bound", "w", "found", "k", "factor", "row"], 0, defArgs (cb (top 87) 3), defBody (cb (top 87) 3), defScope (cb (top 87) 3), ⟨3, 14, [0], b_Linear_judge⟩⟩
def b_far_from : Ss := (.cons (.set 4 (.dct1 (.var 3) (.tup (.cons (.cst (.int 0)) (.cons (.cst (.int 1)) .nil))))) (.cons (.forr (.nm 5) (.rng (.var 0)) (.cons (.forr (.cons (.cons (.nm 6) (.cons (.nm 7) (.t1 (.nm 8)))) (.t1 (.nm 9))) (.zip (.bor 1) (.bor 2)) (.cons (.forr (.cons (.nm 10) (.t1 (.nm 11))) (.dat (.tup (.cons (.tup (.cons (.var 6) (.cons (.var 7) .nil))) (.cons (.tup (.cons (.var 7) (.cons (.var 6) .nil))) .nil)))) (.cons (.ife (.inD false (.var 10) 4) (.cons (.set 12 (.call 10 (.cons (.getD 4 (.var 10)) (.cons (.var 9) .nil)))) (.cons (.ife (.or (.cons (.inD true (.var 11) 4) (.cons (.call 13 (.cons (.var 12) (.cons (.getD 4 (.var 11)) .nil))) .nil))) (.cons (.dput 4 (.var 11) (.var 12)) .nil) .nil) .nil)) .nil) .nil)) .nil)) .nil)) (.cons (.ret (.lc [13] (.nm 13) (.rng (.var 0)) .nil (.getDN 4 (.var 13)))) .nil)))
def d_far_from : DI := ⟨none, "far_from", ["n", "ties", "lengths", "start"], ["n", "ties", "lengths", "start", "far", "step", "i", "j", "c", "length", "one", "two", "reach", "v"], 0, defArgs (top 97), defBody (top 97), defScope (top 97), ⟨4, 14, [], b_far_from⟩⟩
def b_Orders_judge : Ss := (.cons (.unp (.cons (.nm 3) (.cons (.nm 4) (.t1 (.nm 5)))) (.var 1)) (.cons (.ife (.call 4 (.cons (.var 2) (.cons (.cst (.str "shares")) (.cons (.cst (.int 2)) .nil)))) (.cons (.ret .nul) .nil) .nil) (.cons (.ife (.or (.cons (.not (.call 4 (.cons (.var 2) (.cons (.cst (.str "lengths")) (.cons (.cst (.int 2)) .nil))))) (.cons (.not (.call 15 (.cons (.idx (.bor 2) (.cst (.int 1))) (.cons (.bi .len (.bor 4)) .nil)))) .nil))) (.cons (.ret (.cst (.bool false))) .nil) .nil) (.cons (.ife (.gen .any ["one"] [none] [0] (.nm 0) (.dat (.idx (.bor 2) (.cst (.int 1)))) .nil (.cmp .lt (.idx (.bor 0) (.cst (.int 0))) (.cst (.int 0)))) (.cons (.ret (.cst (.bool false))) .nil) .nil) (.cons (.set 6 (.call 14 (.cons (.gen .tuple ["tie", "one"] [none, none] [0, 1] (.cons (.nm 0) (.t1 (.nm 1))) (.zip (.bor 4) (.idx (.bor 2) (.cst (.int 1)))) .nil (.call 12 (.cons (.tup (.cons (.idx (.bor 0) (.cst (.int 2))) (.cons (.cst (.int 1)) .nil))) (.cons (.var 1) .nil)))) .nil))) (.cons (.forr (.cons (.nm 7) (.cons (.nm 8) (.t1 (.nm 9)))) (.dat (.bor 5)) (.cons (.set 10 (.idx (.call 24 (.cons (.var 3) (.cons (.var 4) (.cons (.idx (.bor 2) (.cst (.int 1))) (.cons (.var 7) .nil))))) (.var 8))) (.cons (.ife (.isN false (.bor 10)) (.cons (.ret (.cst (.bool true))) .nil) .nil) (.cons (.set 6 (.call 11 (.cons (.var 6) (.cons (.call 12 (.cons (.tup (.cons (.var 9) (.cons (.cst (.int 1)) .nil))) (.cons (.var 10) .nil))) .nil)))) .nil)))) (.cons (.ret (.cmp .lt (.idx (.bor 6) (.cst (.int 0))) (.cst (.int 0)))) .nil)))))))
def d_Orders_judge : DI := ⟨some "Orders", "judge", ["self", "data", "value"], ["self", "data", "value", "n", "ties", "orders", "found", "u", "v", "d", "far"], 1, defArgs (cb (top 98) 3), defBody (cb (top 98) 3), defScope (cb (top 98) 3), ⟨3, 11, [0], b_Orders_judge⟩⟩
def b_judge : Ss := (.cons (.ret (.kcall "kind_of" "judge" (.idx (.bor 0) (.cst (.int 0))) [("flow", ("Flow", 19)), ("need", ("Need", 20)), ("orders", ("Orders", 25)), ("task", ("Task", 17)), ("linear", ("Linear", 23))] (.cons (.slc (.bor 0) (.cst (.int 1)) .nul) (.cons (.var 1) .nil)))) .nil)
def d_judge : DI := ⟨none, "judge", ["question", "value"], ["question", "value"], 0, defArgs (top 148), defBody (top 148), defScope (top 148), ⟨2, 2, [], b_judge⟩⟩
def b__law_same : Ss := (.cons (.ife (.or (.cons (.isi .tuple (.bor 1)) (.cons (.isi .list (.bor 1)) .nil))) (.cons (.ife (.or (.cons (.cmp .ne (.isi .tuple (.bor 1)) (.isi .tuple (.bor 0))) (.cons (.cmp .ne (.isi .list (.bor 1)) (.isi .list (.bor 0))) .nil))) (.cons (.ret (.cst (.bool false))) .nil) .nil) (.cons (.ife (.cmp .ne (.bi .len (.bor 0)) (.bi .len (.bor 1))) (.cons (.ret (.cst (.bool false))) .nil) .nil) (.cons (.ret (.cmp .eq (.bi .len (.lc [2] (.nm 2) (.rng (.bi .len (.bor 1))) (.cons (.not (.call 27 (.cons (.idx (.bor 0) (.var 2)) (.cons (.idx (.bor 1) (.var 2)) .nil)))) .nil) (.var 2))) (.cst (.int 0)))) .nil))) .nil) (.cons (.ife (.isN false (.bor 1)) (.cons (.ret (.isN false (.bor 0))) .nil) .nil) (.cons (.ife (.or (.cons (.isi .bool (.bor 1)) (.cons (.isi .bool (.bor 0)) .nil))) (.cons (.ret (.and (.cons (.isi .bool (.bor 1)) (.cons (.isi .bool (.bor 0)) (.cons (.cmp .eq (.bor 0) (.bor 1)) .nil))))) .nil) .nil) (.cons (.ife (.isi .int (.bor 1)) (.cons (.ret (.and (.cons (.isi .int (.bor 0)) (.cons (.cmp .eq (.bor 0) (.bor 1)) .nil)))) .nil) .nil) (.cons (.ret (.and (.cons (.isi .str (.bor 0)) (.cons (.cmp .eq (.bor 0) (.bor 1)) .nil)))) .nil)))))
def d__law_same : DI := ⟨none, "_law_same", ["actual", "due"], ["actual", "due", "k"], 0, defArgs (top 150), defBody (top 150), defScope (top 150), ⟨2, 3, [], b__law_same⟩⟩
def b__law_pool : Ss := (.cons (.set 1 (.cst (.int 7))) (.cons (.forr (.nm 2) (.dat (.slc (.bor 0) .nul (.cst (.int 63)))) (.cons (.set 1 (.bin .mod (.bi .int (.bin .add (.bin .mul (.bor 1) (.cst (.int 31))) (.bor 2))) (.cst (.int 1000003)))) .nil)) (.cons (.ret (.lst (.cons (.bi .list (.bor 0)) (.cons (.cst (.int 0)) (.cons (.cst (.int 0)) (.cons (.cst (.int 0)) (.cons (.var 1) .nil))))))) .nil)))
def d__law_pool : DI := ⟨none, "_law_pool", ["script"], ["script", "salt", "cell"], 0, defArgs (top 151), defBody (top 151), defScope (top 151), ⟨1, 3, [], b__law_pool⟩⟩
def b__law_spread : Ss := (.cons (.set 1 (.bin .mod (.bi .int (.bor 0)) (.cst (.int 2147483647)))) (.cons (.set 2 (.cst (.int 1))) (.cons (.forr (.nm 3) (.rng (.cst (.int 4))) (.cons (.set 1 (.bin .mod (.bi .int (.bin .add (.bin .add (.bin .mul (.bor 1) (.cst (.int 48271))) (.cst (.int 12345))) (.bor 3))) (.cst (.int 2147483647)))) (.cons (.set 2 (.bin .add (.bin .mul (.bor 2) (.cst (.int 2147483647))) (.bor 1))) .nil))) (.cons (.ret (.mov 2)) .nil))))
def d__law_spread : DI := ⟨none, "_law_spread", ["cell"], ["cell", "blended", "whole_sum", "k"], 0, defArgs (top 152), defBody (top 152), defScope (top 152), ⟨1, 4, [], b__law_spread⟩⟩
def b__law_draw : Ss := (.cons (.ife (.and (.cons (.cmp .le (.idx (.bor 0) (.cst (.int 2))) (.cst (.int 0))) (.cons (.cmp .lt (.idx (.bor 0) (.cst (.int 1))) (.bi .len (.idx (.bor 0) (.cst (.int 0))))) .nil))) (.cons (.set 2 (.idx (.idx (.bor 0) (.cst (.int 0))) (.idx (.bor 0) (.cst (.int 1))))) (.cons (.seti 0 (.cst (.int 1)) (.bin .add (.idx (.bor 0) (.cst (.int 1))) (.cst (.int 1)))) (.cons (.seti 0 (.cst (.int 2)) (.var 2)) (.cons (.ife (.cmp .lt (.bor 2) (.cst (.int 1000000000000000000))) (.cons (.seti 0 (.cst (.int 2)) (.call 29 (.cons (.var 2) .nil))) .nil) .nil) .nil)))) .nil) (.cons (.seti 0 (.cst (.int 3)) (.bin .add (.idx (.bor 0) (.cst (.int 3))) (.cst (.int 1)))) (.cons (.ife (.cmp .le (.idx (.bor 0) (.cst (.int 2))) (.cst (.int 0))) (.cons (.set 3 (.bin .mod (.bi .int (.bin .add (.bin .add (.bin .mul (.idx (.bor 0) (.cst (.int 4))) (.cst (.int 48271))) (.bin .mul (.idx (.bor 0) (.cst (.int 3))) (.cst (.int 69621)))) (.cst (.int 1)))) (.cst (.int 2147483647)))) (.cons (.set 3 (.bin .mod (.bi .int (.bin .add (.bin .mul (.bor 3) (.cst (.int 16807))) (.idx (.bor 0) (.cst (.int 3))))) (.cst (.int 2147483629)))) (.cons (.ret (.bin .mod (.bin .fdiv (.bor 3) (.cst (.int 5))) (.bor 1))) .nil))) .nil) (.cons (.set 4 (.bin .mod (.bi .int (.idx (.bor 0) (.cst (.int 2)))) (.bor 1))) (.cons (.seti 0 (.cst (.int 2)) (.bin .fdiv (.idx (.bor 0) (.cst (.int 2))) (.bor 1))) (.cons (.ret (.mov 4)) .nil))))))
def d__law_draw : DI := ⟨none, "_law_draw", ["pool", "many"], ["pool", "many", "cell", "blended", "value"], 0, defArgs (top 153), defBody (top 153), defScope (top 153), ⟨2, 5, [0], b__law_draw⟩⟩
def b__law_subsets : Ss := (.cons (.set 1 (.lst (.cons (.tup .nil) .nil))) (.cons (.forr (.nm 2) (.rng (.var 0)) (.cons (.set 1 (.bin .add (.bor 1) (.lc [3] (.nm 3) (.dat (.bor 1)) .nil (.bin .add (.bor 3) (.tup (.cons (.var 2) .nil)))))) .nil)) (.cons (.ret (.mov 1)) .nil)))
def d__law_subsets : DI := ⟨none, "_law_subsets", ["number"], ["number", "found", "k", "one"], 0, defArgs (top 154), defBody (top 154), defScope (top 154), ⟨1, 4, [], b__law_subsets⟩⟩
def b__law_net : Ss := (.cons (.set 3 (.bin .add (.cst (.int 2)) (.call 30 (.cons (.bor 0) (.cons (.bin .sub (.bor 1) (.cst (.int 1))) .nil))))) (.cons (.set 4 (.idx (.tup (.cons (.cst (.int 2)) (.cons (.cst (.int 6)) (.cons (.cst (.int 101)) .nil)))) (.call 30 (.cons (.bor 0) (.cons (.cst (.int 3)) .nil))))) (.cons (.set 5 (.lst .nil)) (.cons (.forr (.nm 6) (.rng (.call 30 (.cons (.bor 0) (.cons (.bin .add (.bor 2) (.cst (.int 1))) .nil)))) (.cons (.set 7 (.call 30 (.cons (.bor 0) (.cons (.var 3) .nil)))) (.cons (.set 8 (.bin .mod (.bin .add (.bin .add (.bor 7) (.cst (.int 1))) (.call 30 (.cons (.bor 0) (.cons (.bin .sub (.bor 3) (.cst (.int 1))) .nil)))) (.bor 3))) (.cons (.app 5 (.tup (.cons (.var 7) (.cons (.var 8) (.cons (.call 30 (.cons (.bor 0) (.cons (.var 4) .nil))) .nil))))) .nil)))) (.cons (.ret (.tup (.cons (.var 3) (.cons (.bi .tuple (.bor 5)) .nil)))) .nil)))))
def d__law_net : DI := ⟨none, "_law_net", ["pool", "places", "most"], ["pool", "places", "most", "n", "top", "arcs", "k", "i", "j"], 0, defArgs (top 155), defBody (top 155), defScope (top 155), ⟨3, 9, [0], b__law_net⟩⟩
def b__law_ends : Ss := (.cons (.set 2 (.call 30 (.cons (.bor 0) (.cons (.var 1) .nil)))) (.cons (.ret (.tup (.cons (.var 2) (.cons (.bin .mod (.bin .add (.bin .add (.bor 2) (.cst (.int 1))) (.call 30 (.cons (.bor 0) (.cons (.bin .sub (.bor 1) (.cst (.int 1))) .nil)))) (.bor 1)) .nil)))) .nil))
def d__law_ends : DI := ⟨none, "_law_ends", ["pool", "n"], ["pool", "n", "s"], 0, defArgs (top 156), defBody (top 156), defScope (top 156), ⟨2, 3, [0], b__law_ends⟩⟩
def b__law_orders : Ss := (.cons (.set 1 (.bin .add (.cst (.int 2)) (.call 30 (.cons (.bor 0) (.cons (.cst (.int 3)) .nil))))) (.cons (.set 2 (.lst .nil)) (.cons (.forr (.nm 3) (.rng (.call 30 (.cons (.bor 0) (.cons (.cst (.int 5)) .nil)))) (.cons (.set 4 (.call 30 (.cons (.bor 0) (.cons (.bin .sub (.bor 1) (.cst (.int 1))) .nil)))) (.cons (.app 2 (.tup (.cons (.var 4) (.cons (.bin .add (.bin .add (.bor 4) (.cst (.int 1))) (.call 30 (.cons (.bor 0) (.cons (.bin .sub (.bin .sub (.bor 1) (.cst (.int 1))) (.bor 4)) .nil)))) (.cons (.call 30 (.cons (.bor 0) (.cons (.cst (.int 5)) .nil))) .nil))))) .nil))) (.cons (.set 5 (.lst .nil)) (.cons (.forr (.nm 3) (.rng (.bin .add (.cst (.int 1)) (.call 30 (.cons (.bor 0) (.cons (.cst (.int 3)) .nil))))) (.cons (.unp (.cons (.nm 6) (.t1 (.nm 7))) (.call 33 (.cons (.bor 0) (.cons (.var 1) .nil)))) (.cons (.app 5 (.tup (.cons (.var 6) (.cons (.var 7) (.cons (.bin .add (.cst (.int 1)) (.call 30 (.cons (.bor 0) (.cons (.cst (.int 4)) .nil)))) .nil))))) .nil))) (.cons (.ret (.tup (.cons (.var 1) (.cons (.bi .tuple (.bor 2)) (.cons (.bi .tuple (.bor 5)) .nil))))) .nil))))))
def d__law_orders : DI := ⟨none, "_law_orders", ["pool"], ["pool", "n", "ties", "k", "i", "orders", "u", "v"], 0, defArgs (top 157), defBody (top 157), defScope (top 157), ⟨1, 8, [0], b__law_orders⟩⟩
def b_law : Ss := (.cons (.set 1 (.call 28 (.cons (.var 0) .nil))) (.cons (.set 2 (.call 32 (.cons (.bor 1) (.cons (.cst (.int 4)) (.cons (.cst (.int 6)) .nil))))) (.cons (.unp (.cons (.nm 3) (.t1 (.nm 4))) (.var 2)) (.cons (.unp (.cons (.nm 5) (.t1 (.nm 6))) (.call 33 (.cons (.bor 1) (.cons (.var 3) .nil)))) (.cons (.set 7 (.bin .add (.cst (.int 1)) (.call 30 (.cons (.bor 1) (.cons (.cst (.int 8)) .nil))))) (.cons (.set 8 (.bi .tuple (.lc [9] (.nm 9) (.rng (.var 3)) .nil (.ife (.cmp .eq (.bor 9) (.bor 6)) (.var 7) (.ife (.cmp .eq (.bor 9) (.bor 5)) (.bin .sub (.cst (.int 0)) (.bor 7)) (.cst (.int 0))))))) (.cons (.set 10 (.tup (.cons (.var 3) (.cons (.bi .tuple (.lc [11, 12, 13] (.cons (.nm 11) (.cons (.nm 12) (.t1 (.nm 13)))) (.dat (.bor 4)) .nil (.tup (.cons (.var 11) (.cons (.var 12) (.cons (.cst (.int 0)) (.cons (.var 13) .nil))))))) .nil)))) (.cons (.set 14 (.tup (.cons (.cst (.str "task")) (.cons (.var 3) (.cons (.bi .tuple (.lc [11, 12, 13] (.cons (.nm 11) (.cons (.nm 12) (.t1 (.nm 13)))) (.dat (.bor 4)) .nil (.tup (.cons (.var 11) (.cons (.var 12) (.cons (.cst (.int 0)) (.cons (.var 13) (.cons (.cst (.int 0)) .nil)))))))) (.cons (.var 8) (.cons (.cst .none) .nil))))))) (.cons (.set 15 (.bi .tuple (.lc [9] (.nm 9) (.rng (.var 3)) .nil (.bi .tuple (.lc [11, 12, 13] (.cons (.nm 11) (.cons (.nm 12) (.t1 (.nm 13)))) (.dat (.bor 4)) .nil (.ife (.cmp .eq (.bor 12) (.bor 9)) (.cst (.int 1)) (.ife (.cmp .eq (.bor 11) (.bor 9)) (.neg (.cst (.int 1))) (.cst (.int 0))))))))) (.cons (.forr (.nm 16) (.dat (.call 31 (.cons (.var 3) .nil))) (.cons (.set 17 (.bi .tuple (.lc [9] (.nm 9) (.rng (.var 3)) (.cons (.cmp .notIn (.bor 9) (.bor 16)) .nil) (.var 9)))) (.cons (.set 18 (.call 26 (.cons (.tup (.cons (.cst (.str "flow")) (.cons (.var 2) (.cons (.var 5) (.cons (.var 6) (.cons (.var 7) .nil)))))) (.cons (.tup (.cons (.cst (.str "cut")) (.cons (.var 16) .nil))) .nil)))) (.cons (.set 19 (.call 26 (.cons (.tup (.cons (.cst (.str "need")) (.cons (.var 10) (.cons (.var 8) .nil)))) (.cons (.tup (.cons (.cst (.str "crowd")) (.cons (.var 17) .nil))) .nil)))) (.cons (.ife (.or (.cons (.and (.cons (.cmp .inn (.bor 5) (.bor 16)) (.cons (.cmp .notIn (.bor 6) (.bor 16)) (.cons (.cmp .ne (.bor 18) (.bor 19)) .nil)))) (.cons (.and (.cons (.var 18) (.cons (.not (.var 19)) .nil))) (.cons (.not (.call 27 (.cons (.call 26 (.cons (.var 14) (.cons (.tup (.cons (.cst (.str "crowd")) (.cons (.var 17) .nil))) .nil))) (.cons (.var 19) .nil)))) .nil)))) (.cons (.ret (.cst (.bool false))) .nil) .nil) (.cons (.ife (.cmp .gt (.bi .len (.bor 4)) (.cst (.int 0))) (.cons (.set 20 (.tup (.cons (.cst (.str "linear")) (.cons (.var 15) (.cons (.var 8) (.cons (.bin .mul (.tup (.cons (.cst (.int 0)) .nil)) (.bi .len (.bor 4))) (.cons (.bi .tuple (.lc [11, 12, 13] (.cons (.nm 11) (.cons (.nm 12) (.t1 (.nm 13)))) (.dat (.bor 4)) .nil (.var 13))) (.cons (.bin .mul (.tup (.cons (.cst (.int 0)) .nil)) (.bi .len (.bor 4))) (.cons (.cst .none) .nil))))))))) (.cons (.set 21 (.bi .tuple (.lc [9] (.nm 9) (.rng (.var 3)) .nil (.tup (.cons (.ife (.cmp .inn (.bor 9) (.bor 17)) (.cst (.int 1)) (.cst (.int 0))) (.cons (.cst (.int 1)) .nil)))))) (.cons (.ife (.cmp .ne (.call 26 (.cons (.var 20) (.cons (.tup (.cons (.cst (.str "weights")) (.cons (.var 21) (.cons (.tup (.cons (.cst (.int 0)) (.cons (.cst (.int 1)) .nil))) .nil)))) .nil))) (.bor 19)) (.cons (.ret (.cst (.bool false))) .nil) .nil) .nil))) .nil) .nil)))))) (.cons (.unp (.cons (.nm 3) (.cons (.nm 22) (.t1 (.nm 23)))) (.call 34 (.cons (.bor 1) .nil))) (.cons (.forr (.nm 16) (.dat (.call 31 (.cons (.var 3) .nil))) (.cons (.set 24 (.bi .tuple (.lc [11, 12, 13] (.cons (.nm 11) (.cons (.nm 12) (.t1 (.nm 13)))) (.dat (.bor 22)) .nil (.ife (.cmp .ne (.cmp .inn (.bor 11) (.bor 16)) (.cmp .inn (.bor 12) (.bor 16))) (.tup (.cons (.cst (.int 1)) (.cons (.cst (.int 1)) .nil))) (.tup (.cons (.cst (.int 0)) (.cons (.cst (.int 1)) .nil))))))) (.cons (.set 25 (.bi .sum (.lc [26, 9, 27] (.cons (.nm 26) (.cons (.nm 9) (.t1 (.nm 27)))) (.dat (.bor 23)) (.cons (.cmp .ne (.cmp .inn (.bor 26) (.bor 16)) (.cmp .inn (.bor 9) (.bor 16))) .nil) (.var 27)))) (.cons (.set 28 (.bi .sum (.lc [11, 12, 13] (.cons (.nm 11) (.cons (.nm 12) (.t1 (.nm 13)))) (.dat (.bor 22)) (.cons (.cmp .ne (.cmp .inn (.bor 11) (.bor 16)) (.cmp .inn (.bor 12) (.bor 16))) .nil) (.var 13)))) (.cons (.ife (.and (.cons (.cmp .gt (.bor 25) (.bor 28)) (.cons (.not (.call 26 (.cons (.tup (.cons (.cst (.str "orders")) (.cons (.var 3) (.cons (.var 22) (.cons (.var 23) .nil))))) (.cons (.tup (.cons (.cst (.str "lengths")) (.cons (.var 24) .nil))) .nil)))) .nil))) (.cons (.ret (.cst (.bool false))) .nil) .nil) .nil))))) (.cons (.ret (.cst (.bool true))) .nil)))))))))))))
def d_law : DI := ⟨none, "law", ["script"], ["script", "pool", "net", "n", "arcs", "s", "t", "k", "needs", "v", "bounded", "i", "j", "c", "task", "rows", "side", "outside", "cut", "crowd", "linear", "weights", "ties", "orders", "lengths", "wanted", "u", "d", "crosses"], 0, defArgs (top 158), defBody (top 158), defScope (top 158), ⟨1, 29, [], b_law⟩⟩
def d_kind_of : DI := ⟨none, "kind_of", ["word"], ["word", "known"], 0, defArgs (top 147), defBody (top 147), defScope (top 147), ⟨1, 2, [], .nil⟩⟩
def tb_kind_of : List (PySem.Str × PySem.Str) := [("flow", "Flow"), ("need", "Need"), ("cost", "Cost"), ("ways", "Ways"), ("places", "Places"), ("transport", "Transport"), ("season", "Season"), ("choice", "Choice"), ("turned", "Turned"), ("grid", "Grid"), ("time", "Time"), ("levels", "Levels"), ("gain", "Gain"), ("orders", "Orders"), ("task", "Task"), ("linear", "Linear")]
def kd : List (DI × List (PySem.Str × PySem.Str)) := [(d_kind_of, tb_kind_of)]
def ds : List DI := [d_is_integer, d_is_within, d_is_row, d_is_row_within, d_is_worded, d_is_places, d_is_ascending, d_crossing, d_is_quotient, d_quotient, d_plus, d_minus, d_times, d_is_less, d_total, d_is_quotient_row, d_is_crowd, d_Task_judge, d_is_cut, d_Flow_judge, d_Need_judge, d_least_product, d_dot, d_Linear_judge, d_far_from, d_Orders_judge, d_judge, d__law_same, d__law_pool, d__law_spread, d__law_draw, d__law_subsets, d__law_net, d__law_ends, d__law_orders]
abbrev R : PySem.W.OpenRow := PySem.W.OpenLaw.row PySem.Challenge.rw_flowwright_k57_whole_bars_across
def fa : List He.Fa := faOf pg (allD ds kd d_law)
def fn : List He.DefD := (allD ds kd d_law).map dd
def tf : List He.Defn := tfOf (allD ds kd d_law)
def roots : List PySem.Str := [("Choice" : PySem.Str), ("Cost" : PySem.Str), ("Flow" : PySem.Str), ("Gain" : PySem.Str), ("Grid" : PySem.Str), ("Levels" : PySem.Str), ("Linear" : PySem.Str), ("Need" : PySem.Str), ("Orders" : PySem.Str), ("Places" : PySem.Str), ("Season" : PySem.Str), ("Task" : PySem.Str), ("Time" : PySem.Str), ("Transport" : PySem.Str), ("Turned" : PySem.Str), ("Ways" : PySem.Str), ("_law_draw" : PySem.Str), ("_law_ends" : PySem.Str), ("_law_net" : PySem.Str), ("_law_orders" : PySem.Str), ("_law_pool" : PySem.Str), ("_law_same" : PySem.Str), ("_law_spread" : PySem.Str), ("_law_subsets" : PySem.Str), ("crossing" : PySem.Str), ("dot" : PySem.Str), ("far_from" : PySem.Str), ("is_ascending" : PySem.Str), ("is_crowd" : PySem.Str), ("is_cut" : PySem.Str), ("is_integer" : PySem.Str), ("is_less" : PySem.Str), ("is_places" : PySem.Str), ("is_quotient" : PySem.Str), ("is_quotient_row" : PySem.Str), ("is_row" : PySem.Str), ("is_row_within" : PySem.Str), ("is_within" : PySem.Str), ("is_worded" : PySem.Str), ("judge" : PySem.Str), ("kind_of" : PySem.Str), ("law" : PySem.Str), ("least_product" : PySem.Str), ("minus" : PySem.Str), ("plus" : PySem.Str), ("quotient" : PySem.Str), ("times" : PySem.Str), ("total" : PySem.Str)]
abbrev hk : PySem.W.Hook := hookY (asY roots 5) fa fn tf (exB pg)
def ob (s : PySem.W.SharedT) : He.AlX := obsY (asY roots 5) fa fn tf (exB pg) (HandSHeadRun.getT s)
theorem ob_eq (s : PySem.W.SharedT) : ob s = hk.obs s.abs := obsY_eq (HandSHeadRun.getT_eq s)
def names : List PySem.Str := [("gcd" : PySem.Str), ("is_integer" : PySem.Str), ("is_within" : PySem.Str), ("is_row" : PySem.Str), ("is_row_within" : PySem.Str), ("is_worded" : PySem.Str), ("is_places" : PySem.Str), ("is_ascending" : PySem.Str), ("MOST_PLACES_nets" : PySem.Str), ("MOST_ARCS_nets" : PySem.Str), ("MOST_nets" : PySem.Str), ("is_arc" : PySem.Str), ("is_net" : PySem.Str), ("outcome" : PySem.Str), ("worth" : PySem.Str), ("goes" : PySem.Str), ("crossing" : PySem.Str), ("rest_of" : PySem.Str), ("come_to" : PySem.Str), ("Stream" : PySem.Str), ("cost_of" : PySem.Str), ("solved_task" : PySem.Str), ("is_quotient" : PySem.Str), ("quotient" : PySem.Str), ("plus" : PySem.Str), ("minus" : PySem.Str), ("times" : PySem.Str), ("over" : PySem.Str), ("is_less" : PySem.Str), ("total" : PySem.Str), ("is_quotient_row" : PySem.Str), ("MOST_PLACES_tasks" : PySem.Str), ("MOST_ARCS_tasks" : PySem.Str), ("is_task_arc" : PySem.Str), ("is_crowd" : PySem.Str), ("price_sum" : PySem.Str), ("floor" : PySem.Str), ("ceiling" : PySem.Str), ("crowded_side" : PySem.Str), ("whole_prices" : PySem.Str), ("Task" : PySem.Str), ("MOST_BOUND_flows" : PySem.Str), ("LEAST_BOUND_flows" : PySem.Str), ("MOST_flows" : PySem.Str), ("MOST_NEED" : PySem.Str), ("MOST_COST" : PySem.Str), ("MOST_COSTS" : PySem.Str), ("are_ends" : PySem.Str), ("is_cut" : PySem.Str), ("Flow" : PySem.Str), ("Need" : PySem.Str), ("Cost" : PySem.Str), ("MOST_THINGS" : PySem.Str), ("MOST_WORTH" : PySem.Str), ("MOST_BOUND_choices" : PySem.Str), ("changed" : PySem.Str), ("Choice" : PySem.Str), ("LEAST_PLACES_gains" : PySem.Str), ("MOST_PLACES_gains" : PySem.Str), ("MOST_ARCS_gains" : PySem.Str), ("MOST_gains" : PySem.Str), ("MOST_FACTOR" : PySem.Str), ("is_gain_arc" : PySem.Str), ("left_at" : PySem.Str), ("scale_of" : PySem.Str), ("room_of" : PySem.Str), ("Gain" : PySem.Str), ("Taking" : PySem.Str), ("parts_of" : PySem.Str), ("is_walk" : PySem.Str), ("MOST_GAP" : PySem.Str), ("Levels" : PySem.Str), ("MOST_ROWS" : PySem.Str), ("MOST_COLUMNS" : PySem.Str), ("least_product" : PySem.Str), ("dot" : PySem.Str), ("Linear" : PySem.Str), ("LEAST_PLACES_orders" : PySem.Str), ("MOST_PLACES_orders" : PySem.Str), ("MOST_TIES_orders" : PySem.Str), ("MOST_ORDERS" : PySem.Str), ("MOST_orders" : PySem.Str), ("is_wide_tie" : PySem.Str), ("is_order" : PySem.Str), ("size" : PySem.Str), ("far_from" : PySem.Str), ("Orders" : PySem.Str), ("LEAST_TEAMS" : PySem.Str), ("MOST_TEAMS" : PySem.Str), ("MOST_WINS" : PySem.Str), ("MOST_GAMES" : PySem.Str), ("WIDE_seasons" : PySem.Str), ("is_left" : PySem.Str), ("reach" : PySem.Str), ("final_wins" : PySem.Str), ("Season" : PySem.Str), ("MOST_TIME" : PySem.Str), ("MOST_END" : PySem.Str), ("Time" : PySem.Str), ("MOST_transports" : PySem.Str), ("MOST_PIECES" : PySem.Str), ("LEAST_BOUND_transports" : PySem.Str), ("MOST_BOUND_transports" : PySem.Str), ("is_cost_row" : PySem.Str), ("is_few" : PySem.Str), ("ways_in" : PySem.Str), ("ways_in_transports" : PySem.Str), ("Transport" : PySem.Str), ("LEAST_PLACES_turned" : PySem.Str), ("MOST_PLACES_turned" : PySem.Str), ("MOST_TIES_turned" : PySem.Str), ("MOST_LINES" : PySem.Str), ("MOST_turned" : PySem.Str), ("WIDE_turned" : PySem.Str), ("are_ties" : PySem.Str), ("Turned" : PySem.Str), ("is_span" : PySem.Str), ("are_spans" : PySem.Str), ("is_in" : PySem.Str), ("Grid" : PySem.Str), ("MOST_WAYS" : PySem.Str), ("is_way" : PySem.Str), ("inner_places" : PySem.Str), ("are_ways" : PySem.Str), ("comes_without" : PySem.Str), ("ways_in_ways" : PySem.Str), ("Ways" : PySem.Str), ("Places" : PySem.Str), ("kind_of" : PySem.Str), ("judge" : PySem.Str), ("_law_same" : PySem.Str), ("_law_pool" : PySem.Str), ("_law_spread" : PySem.Str), ("_law_draw" : PySem.Str), ("_law_subsets" : PySem.Str), ("_law_net" : PySem.Str), ("_law_ends" : PySem.Str), ("_law_orders" : PySem.Str)]
theorem run1 (w : World) : (HandSHeadRun.wholeF (fun p => HandSHeadRun.stepQ (HandSHeadRun.denQ HandSHeadRun.tabQ) p w) HandSHeadRun.fenceQ 11000 R.prog).map (fun x => HandSHeadRun.looksF R.prog x.1.heap x.2.abs) = some true := by
  kernel_rfl
theorem run2 (w : World) : (HandSHeadRun.wholeF (fun p => HandSHeadRun.stepQ (HandSHeadRun.denQ HandSHeadRun.tabQ) p w) HandSHeadRun.fenceQ 11000 R.prog).map (fun x => HandSHeadRun.seenQ (PySem.W.view R.prog [0, 158]) names (importedModules R.prog.main.body) (fun s => PySem.W.xlAt (PySem.W.view R.prog [0, 158]) [] s && PySem.W.recOk R.toRowW.records s) x.2.abs) = some (PySem.W.openGood (PySem.W.view R.prog [0, 158]) names) := by
  kernel_rfl
theorem run3 (w : World) : (HandSHeadRun.wholeF (fun p => HandSHeadRun.stepQ (HandSHeadRun.denQ HandSHeadRun.tabQ) p w) HandSHeadRun.fenceQ 11000 R.prog).map (fun x => ob x.2) = some (hk.val w) := by
  kernel_rfl
theorem run_eq (w : World) : HandSHeadRun.RunEqI R (PySem.W.view R.prog [0, 158]) hk ob 11000 names w := map3 (run1 w) (run2 w) (run3 w)
end K57
set_option Elab.async false
set_option linter.all false
set_option maxRecDepth 100000
set_option maxHeartbeats 0
section
open PySem PySem.W PySem.Calls PyProof.Rows
theorem K57.sealed (h : (OpenLaw.row PySem.Challenge.rw_flowwright_k57_whole_bars_across).wellSaid = true → (OpenLaw.row PySem.Challenge.rw_flowwright_k57_whole_bars_across).Holds) : PySem.Challenge.rw_flowwright_k57_whole_bars_across.Holds := by
  w_on; o_law
  exact h (by assumption)
end
set_option linter.all false
set_option maxRecDepth 100000
set_option maxHeartbeats 1000000
/-! The symbol tables' look, piece by piece. -/
namespace MP
open PySem PySem.TablesWhole
abbrev tw (p : Program) (l : List Stmt) : Bool := wSs holds p.main.scope ⟨p.main.scope, [], [], [], none⟩ p.main.scope l
theorem wSs_app {top : Scope} {cx : TablesWhole.Ctx} {sc : Scope} : ∀ {l m : List Stmt}, wSs holds top cx sc l = true → wSs holds top cx sc m = true → wSs holds top cx sc (l ++ m) = true
  | [], m, _, h => h
  | s :: l, m, h1, h2 => by
    have e1 : (wS holds top cx sc s && wSs holds top cx sc l) = true := h1
    rw [Bool.and_eq_true] at e1
    show (wS holds top cx sc s && wSs holds top cx sc (l ++ m)) = true
    rw [e1.1, wSs_app e1.2 h2]
    rfl
theorem tw_step {p : Program} {l : List Stmt} (k n : Nat) (h1 : tw p ((l.drop k).take n) = true) (h2 : tw p (l.drop (k + n)) = true) : tw p (l.drop k) = true := by
  have e : l.drop k = (l.drop k).take n ++ l.drop (k + n) := by rw [← List.drop_drop, List.take_append_drop]
  rw [e]
  exact wSs_app h1 h2
theorem tw_whole {p : Program} (hg : wSs gather p.main.scope ⟨p.main.scope, [], [], [], none⟩ p.main.scope p.main.body = []) (hn : noTwice p.main.scope = true) (h : tw p (p.main.body.drop 0) = true) (h1 : p.modules = []) (h2 : p.parses = []) (h3 : p.harvested = []) : p.tablesWhole = true := by
  unfold Program.tablesWhole wProgram wModule
  rw [hg, h1, h2, h3]
  show (holds.all [holds.all [true, noTwice p.main.scope, tw p (p.main.body.drop 0)], true, true, true]) = true
  rw [hn, h]
  rfl
end MP
set_option Elab.async false
set_option linter.all false
set_option maxRecDepth 100000
set_option maxHeartbeats 0
namespace K57
open PySem PySem.W PySem.Calls PyProof.Rows HandSHeadRun
theorem z_modules : R.prog.modules = [] := by kernel_rfl
theorem z_parses : R.prog.parses = [] := by kernel_rfl
theorem z_absent : R.prog.absent = [] := by kernel_rfl
theorem z_harvested : R.prog.harvested = [] := by kernel_rfl
theorem z_given : R.prog.given = { argv := [], stdin := [], environ := some Program.claimEnviron, cwd := none, tree := none, leftOut := [], nothingAt := [] } := by kernel_rfl
theorem tw_g : TablesWhole.wSs TablesWhole.gather R.prog.main.scope ⟨R.prog.main.scope, [], [], [], none⟩ R.prog.main.scope R.prog.main.body = [] := by kernel_rfl
theorem tw_n : TablesWhole.noTwice R.prog.main.scope = true := by decide +kernel
theorem tw_0 : MP.tw R.prog ((R.prog.main.body.drop 0).take 40) = true := by decide +kernel
theorem tw_1 : MP.tw R.prog ((R.prog.main.body.drop 40).take 40) = true := by decide +kernel
theorem tw_2 : MP.tw R.prog ((R.prog.main.body.drop 80).take 40) = true := by decide +kernel
theorem tw_3 : MP.tw R.prog ((R.prog.main.body.drop 120).take 40) = true := by decide +kernel
theorem tw_e : MP.tw R.prog (R.prog.main.body.drop (120 + 40)) = true := by decide +kernel
theorem z_whole : R.prog.tablesWhole = true := MP.tw_whole tw_g tw_n (MP.tw_step 0 40 tw_0 (MP.tw_step (0 + 40) 40 tw_1 (MP.tw_step (0 + 40 + 40) 40 tw_2 (MP.tw_step (0 + 40 + 40 + 40) 40 tw_3 tw_e)))) z_modules z_parses z_harvested
theorem z_bare : R.prog.bare := ⟨z_modules, z_parses, z_absent, z_harvested, z_given, z_whole⟩
theorem z_def : defOf (view R.prog [0, 158]) R.name = some (topDef R.prog 158, []) := by kernel_rfl
theorem z_prog : R.prog.theDef R.name = some ((topDef R.prog 158).params, (topDef R.prog 158).body, (topDef R.prog 158).scope) := by kernel_rfl
theorem z_kw : kwWritten? (topDef R.prog 158).params.kwonlyargs (topDef R.prog 158).params.kw_defaults = some [] := by kernel_rfl
theorem z_wr : (!R.writes || R.records.isEmpty) = true := by rfl
theorem z_ok : (chainsOk (view R.prog [0, 158]) && opensWell R.prog && (frees R.toRowW && R.within.isEmpty)) = true := by decide +kernel
theorem z_wit : R.toRowW.promised := by w_witness2
theorem z_name : (topDef R.prog 158).name = ("law" : PySem.Str) := by kernel_rfl
theorem topI (said : R.wellSaid = true) (call : WalkO (view R.prog [0, 158]) names (XL (view R.prog [0, 158]) []) hk.says R.toRowW (topDef R.prog 158) [] fun f vs => PySem.call f vs) : R.Holds :=
  head_imp (q := view R.prog [0, 158]) (H := hk) (ob := ob) (M := 11000) (loose := names) (d := topDef R.prog 158) (kwd := []) ob_eq run_eq z_def z_prog z_kw z_wr said z_ok z_bare z_wit call
theorem z_dflt : (topDef R.prog 158).params.defaults = [] := by kernel_rfl
end K57
set_option linter.all false
set_option maxRecDepth 100000
/-! What the small language's values stand for in the abstract heap. -/
namespace MP
open PySem PySem.Spec PyProof.Rows L2 GxR

/-- the owner of what stands at an address: a slot, a value under way, a value set aside; and the field of it -/
inductive Ow where
  | sl (i : Nat)
  | tmp
  | fly (j : Nat)
  deriving DecidableEq
abbrev Lb := Ow × Option Str
abbrev Om := Addr → Option Lb
/-- what the code at hand does not touch -/
def Prot : Option Lb → Prop
  | none => True
  | some (.fly _, _) => True
  | _ => False
/-- the heap but what is owned: it does not change -/
def fr (H : Hp) (ω : Om) : Hp := fun a => match ω a with
  | none => H a
  | some _ => none
theorem fr_some {H : Hp} {ω : Om} {a : Addr} {o : HO} : fr H ω a = some o ↔ ω a = none ∧ H a = some o := by
  unfold fr
  cases e : ω a with
  | none => simp
  | some l => simp
def keyV : D → Option Key
  | .int i => some (.inl i)
  | .str x => some (.inr x)
  | _ => none
mutual
def Fz (K : PySem.W.Frag) (F : Hp) : D → V → Prop
  | .none, v => v = .non
  | .bool b, v => v = .bl b
  | .int i, v => v = .int i
  | .str x, v => v = .str x
  | .list ds, v => ∃ a vs, v = .ref a ∧ SqL K F a vs ∧ FzL K F ds vs
  | .tuple ds, v => ∃ a vs, v = .ref a ∧ SqT K F a vs ∧ FzL K F ds vs
  | .dict kvs, v => ∃ a ks, v = .ref a ∧ F a = some (.dK ks) ∧ FzK K F kvs ks
def FzL (K : PySem.W.Frag) (F : Hp) : List D → List V → Prop
  | [], vs => vs = []
  | d :: ds, vs => ∃ x r, vs = x :: r ∧ Fz K F d x ∧ FzL K F ds r
def FzK (K : PySem.W.Frag) (F : Hp) : List (D × D) → List (Key × V) → Prop
  | [], ks => ks = []
  | (k, d) :: r, ks => ∃ q x s, ks = (q, x) :: s ∧ keyV k = some q ∧ Fz K F d x ∧ FzK K F r s
end
/-- an object that is no table of code -/
def noTbl (o : HO) : Prop := ∀ ps, o ≠ .tbl ps
/-- F' holds all that F holds, but tables -/
def Up (F F' : Hp) : Prop := ∀ a o, F a = some o → noTbl o → F' a = some o
theorem Up.refl {F : Hp} : Up F F := fun _ _ e _ => e
theorem Up.trans {F F' F'' : Hp} (h : Up F F') (k : Up F' F'') : Up F F'' := fun a o e n => k a o (h a o e n) n
theorem Rd.up {F F' : Hp} {a : Addr} {u : HO} (h : Up F F') (n : noTbl u) (r : Rd F a u) : Rd F' a u := by
  rcases r with r | ⟨o, r⟩
  · exact .inl (h a u r n)
  · exact .inr ⟨o, h a _ r (fun ps z => by cases z)⟩
theorem SqT.up {K : PySem.W.Frag} {F F' : Hp} {a : Addr} {vs : List V} (h : Up F F') (r : SqT K F a vs) : SqT K F' a vs := by
  rcases r with r | r
  · exact .inl (Rd.up h (fun ps z => by cases z) r)
  · exact .inr r
theorem SqL.up {K : PySem.W.Frag} {F F' : Hp} {a : Addr} {vs : List V} (h : Up F F') (r : SqL K F a vs) : SqL K F' a vs := by
  rcases r with r | r
  · exact .inl (Rd.up h (fun ps z => by cases z) r)
  · exact .inr r
mutual
theorem Fz.up {K : PySem.W.Frag} {F F' : Hp} (h : Up F F') : ∀ (d : D) (v : V), Fz K F d v → Fz K F' d v
  | .none, v, r => r
  | .bool b, v, r => r
  | .int i, v, r => r
  | .str x, v, r => r
  | .list ds, v, ⟨a, vs, e, r, l⟩ => ⟨a, vs, e, SqL.up h r, FzL.up h ds vs l⟩
  | .tuple ds, v, ⟨a, vs, e, r, l⟩ => ⟨a, vs, e, SqT.up h r, FzL.up h ds vs l⟩
  | .dict kvs, v, ⟨a, ks, e, r, l⟩ => ⟨a, ks, e, h a _ r (fun ps z => by cases z), FzK.up h kvs ks l⟩
theorem FzL.up {K : PySem.W.Frag} {F F' : Hp} (h : Up F F') : ∀ (ds : List D) (vs : List V), FzL K F ds vs → FzL K F' ds vs
  | [], vs, r => r
  | d :: ds, vs, ⟨x, r, e, q, l⟩ => ⟨x, r, e, Fz.up h d x q, FzL.up h ds r l⟩
theorem FzK.up {K : PySem.W.Frag} {F F' : Hp} (h : Up F F') : ∀ (ds : List (D × D)) (vs : List (Key × V)), FzK K F ds vs → FzK K F' ds vs
  | [], vs, r => r
  | (k, d) :: ds, vs, ⟨q, x, s, e, e2, r, l⟩ => ⟨q, x, s, e, e2, Fz.up h d x r, FzK.up h ds s l⟩
end
theorem FzL.length {K : PySem.W.Frag} {F : Hp} : ∀ {ds : List D} {vs : List V}, FzL K F ds vs → vs.length = ds.length
  | [], vs, r => by rw [show vs = [] from r]; rfl
  | d :: ds, vs, ⟨x, r, e, q, l⟩ => by rw [e, List.length_cons, List.length_cons, FzL.length l]
theorem FzL.get {K : PySem.W.Frag} {F : Hp} : ∀ {ds : List D} {vs : List V} {i : Nat} {d : D}, FzL K F ds vs → ds[i]? = some d → ∃ v, vs[i]? = some v ∧ Fz K F d v
  | [], vs, i, d, r, h => by simp at h
  | x :: ds, vs, 0, d, ⟨y, r, e, q, l⟩, h => by
    simp at h
    subst h
    exact ⟨y, by rw [e]; rfl, q⟩
  | x :: ds, vs, i + 1, d, ⟨y, r, e, q, l⟩, h => by
    obtain ⟨v, h1, h2⟩ := FzL.get (i := i) l (by simpa using h)
    exact ⟨v, by rw [e]; simpa using h1, h2⟩
theorem FzL.get' {K : PySem.W.Frag} {F : Hp} {ds : List D} {vs : List V} {i : Nat} {v : V} (h : FzL K F ds vs) (e : vs[i]? = some v) : ∃ d, ds[i]? = some d ∧ Fz K F d v := by
  have hi : i < vs.length := (List.getElem?_eq_some_iff.mp e).1
  rw [h.length] at hi
  obtain ⟨w, h1, h2⟩ := h.get (List.getElem?_eq_getElem hi)
  rw [e] at h1; cases h1
  exact ⟨_, List.getElem?_eq_getElem hi, h2⟩
theorem FzL.append {K : PySem.W.Frag} {F : Hp} : ∀ {ds es : List D} {vs ws : List V}, FzL K F ds vs → FzL K F es ws → FzL K F (ds ++ es) (vs ++ ws)
  | [], es, vs, ws, r, s => by rw [show vs = [] from r]; exact s
  | d :: ds, es, vs, ws, ⟨x, r, e, q, l⟩, s => ⟨x, r ++ ws, by rw [e]; rfl, q, FzL.append l s⟩
theorem FzL.take {K : PySem.W.Frag} {F : Hp} : ∀ {ds : List D} {vs : List V} (n : Nat), FzL K F ds vs → FzL K F (ds.take n) (vs.take n)
  | ds, vs, 0, r => by simp [FzL]
  | [], vs, n + 1, r => by rw [show vs = [] from r]; simp [FzL]
  | d :: ds, vs, n + 1, ⟨x, r, e, q, l⟩ => ⟨x, r.take n, by rw [e]; rfl, q, FzL.take n l⟩
theorem FzL.drop {K : PySem.W.Frag} {F : Hp} : ∀ {ds : List D} {vs : List V} (n : Nat), FzL K F ds vs → FzL K F (ds.drop n) (vs.drop n)
  | ds, vs, 0, r => r
  | [], vs, n + 1, r => by rw [show vs = [] from r]; simp [FzL]
  | d :: ds, vs, n + 1, ⟨x, r, e, q, l⟩ => by rw [e]; exact FzL.drop n l
theorem FzL.set {K : PySem.W.Frag} {F : Hp} {d : D} {v : V} (h : Fz K F d v) : ∀ {ds : List D} {vs : List V} (i : Nat), FzL K F ds vs → FzL K F (ds.set i d) (vs.set i v)
  | [], vs, i, r => by rw [show vs = [] from r]; simp [FzL]
  | x :: ds, vs, 0, ⟨y, r, e, q, l⟩ => ⟨v, r, by rw [e]; rfl, h, l⟩
  | x :: ds, vs, i + 1, ⟨y, r, e, q, l⟩ => ⟨y, r.set i v, by rw [e]; rfl, q, FzL.set h i l⟩
theorem FzL.flatten {K : PySem.W.Frag} {F : Hp} {ds : List D} {vs : List V} (h : FzL K F ds vs) : ∀ n : Nat, FzL K F (List.replicate n ds).flatten (List.replicate n vs).flatten
  | 0 => by simp [FzL]
  | n + 1 => by
    rw [List.replicate_succ, List.replicate_succ, List.flatten_cons, List.flatten_cons]
    exact h.append (FzL.flatten h n)
theorem FzL.ints {K : PySem.W.Frag} {F : Hp} : ∀ {ds : List D} {vs : List V} {ns : List Int}, FzL K F ds vs → intsD ds = some ns → vs = ns.map V.int
  | [], vs, ns, r, e => by
    cases e
    exact r
  | d :: ds, vs, ns, ⟨x, r, e, q, l⟩, h => by
    cases d with
    | int i =>
      unfold intsD at h
      obtain ⟨ms, h1, h2⟩ := Option.map_eq_some_iff.mp h
      subst h2
      rw [e, show x = V.int i from q, FzL.ints l h1]
      rfl
    | _ => cases h

/-- the constants of a walk: the program, the written part, the tables of code -/
structure Cn where
  prog : Program
  w : World
  K : PySem.W.Frag
  mg : Str → Option Value
  base : Heap
  tabs : List Addr
  cls : Str → Addr
def RepB (c : Cn) (H : Hp) (ω : Om) (l : Lb) (v : V) : B → Prop
  | .d x => Fz c.K (fr H ω) x v
  | .lst ds => ∃ a vs, v = .ref a ∧ H a = some (.lst vs) ∧ ω a = some l ∧ FzL c.K (fr H ω) ds vs
  | .dct kvs => ∃ a ks, v = .ref a ∧ H a = some (.dK ks) ∧ ω a = some l ∧ FzK c.K (fr H ω) kvs ks
def RepO (c : Cn) (H : Hp) (ω : Om) (w : Ow) (v : V) : O → Prop
  | .b x => RepB c H ω (w, none) v x
  | .ins C fs => ∃ a dx vs, v = .ref a ∧ H a = some (.ins (c.cls C) dx vs) ∧ ω a = some (w, none) ∧ vs.length = fs.length ∧ ∀ f, (match fs.lookup f with
    | some x => ∃ u, vs.lookup f = some u ∧ RepB c H ω (w, some f) u x
    | none => vs.lookup f = none)
structure Rel (c : Cn) (ω : Om) (σ : L2.St) (H : Hp) (e : Env') : Prop where
  len : σ.length = e.length
  slot : ∀ (i : Nat) o, e[i]? = some (some o) → ∃ v, σ[i]? = some (some v) ∧ RepO c H ω (.sl i) v o
  tab : ∀ P ∈ c.tabs, TabG H P ∧ ω P = none
  own : ∀ a l, ω a = some l → ∃ o, H a = some o ∧ Mut (some o)
/-- how the heap goes on -/
structure Grow (H : Hp) (ω : Om) (H' : Hp) (ω' : Om) : Prop where
  keep : ∀ a o, H a = some o → Prot (ω a) → noTbl o → H' a = some o
  tbl : ∀ a ps, H a = some (.tbl ps) → ∃ ps', H' a = some (.tbl ps')
  lab : ∀ a o, H a = some o → Prot (ω a) → ω' a = ω a
theorem noTbl_of {o : HO} (h : ¬ noTbl o) : ∃ ps, o = .tbl ps := by
  cases o with
  | tbl ps => exact ⟨ps, rfl⟩
  | _ => exact absurd (fun ps z => by cases z) h
theorem Grow.refl {H : Hp} {ω : Om} : Grow H ω H ω := ⟨fun _ _ e _ _ => e, fun _ ps e => ⟨ps, e⟩, fun _ _ _ _ => rfl⟩
theorem Grow.up {H H' : Hp} {ω ω' : Om} (g : Grow H ω H' ω') : Up (fr H ω) (fr H' ω') := fun a o e n => by
  obtain ⟨h1, h2⟩ := fr_some.mp e
  have p : Prot (ω a) := by rw [h1]; trivial
  exact fr_some.mpr ⟨(g.lab a o h2 p).trans h1, g.keep a o h2 p n⟩
theorem Grow.trans {H H' H'' : Hp} {ω ω' ω'' : Om} (g : Grow H ω H' ω') (k : Grow H' ω' H'' ω'') : Grow H ω H'' ω'' :=
  ⟨fun a o e u n => k.keep a o (g.keep a o e u n) (by rw [g.lab a o e u]; exact u) n, fun a ps e => let ⟨_, e'⟩ := g.tbl a ps e; k.tbl a _ e', fun a o e u => by
    have hl := g.lab a o e u
    have : ∃ o', H' a = some o' := by
      by_cases n : noTbl o
      · exact ⟨o, g.keep a o e u n⟩
      · obtain ⟨ps, rfl⟩ := noTbl_of n
        obtain ⟨ps', e'⟩ := g.tbl a ps e
        exact ⟨_, e'⟩
    obtain ⟨o', e'⟩ := this
    rw [k.lab a o' e' (by rw [hl]; exact u), hl]⟩

/-! ### labels changed -/
def rl (ω : Om) (ρ : Lb → Option Lb) : Om := fun a => (ω a).bind ρ
theorem rl_none {ω : Om} {ρ : Lb → Option Lb} {a : Addr} (h : ω a = none) : rl ω ρ a = none := by unfold rl; rw [h]; rfl
theorem rl_some {ω : Om} {ρ : Lb → Option Lb} {a : Addr} {l : Lb} (h : ω a = some l) : rl ω ρ a = ρ l := by unfold rl; rw [h]; rfl
theorem rl_up {H : Hp} {ω : Om} {ρ : Lb → Option Lb} : Up (fr H ω) (fr H (rl ω ρ)) := fun a o e n => by
  obtain ⟨h1, h2⟩ := fr_some.mp e
  exact fr_some.mpr ⟨rl_none h1, h2⟩
theorem RepB.rl {c : Cn} {H : Hp} {ω : Om} {ρ : Lb → Option Lb} {l l' : Lb} {v : V} {b : B} (h : RepB c H ω l v b) (e : ρ l = some l') : RepB c H (rl ω ρ) l' v b := by
  cases b with
  | d x => exact Fz.up rl_up _ _ h
  | lst ds =>
    obtain ⟨a, vs, e1, e2, e3, e4⟩ := h
    exact ⟨a, vs, e1, e2, (rl_some e3).trans e, FzL.up rl_up _ _ e4⟩
  | dct ds =>
    obtain ⟨a, vs, e1, e2, e3, e4⟩ := h
    exact ⟨a, vs, e1, e2, (rl_some e3).trans e, FzK.up rl_up _ _ e4⟩
/-- an owned thing let go: it does not change any more -/
theorem RepB.froz {c : Cn} {H : Hp} {ω : Om} {ρ : Lb → Option Lb} {l : Lb} {v : V} {b : B} (h : RepB c H ω l v b) (e : ρ l = none) : Fz c.K (fr H (MP.rl ω ρ)) b.toD v := by
  cases b with
  | d x => exact Fz.up rl_up _ _ h
  | lst ds =>
    obtain ⟨a, vs, e1, e2, e3, e4⟩ := h
    exact ⟨a, vs, e1, .inl (.inl (fr_some.mpr ⟨(rl_some e3).trans e, e2⟩)), FzL.up rl_up _ _ e4⟩
  | dct ds =>
    obtain ⟨a, vs, e1, e2, e3, e4⟩ := h
    exact ⟨a, vs, e1, fr_some.mpr ⟨(rl_some e3).trans e, e2⟩, FzK.up rl_up _ _ e4⟩
theorem RepO.rl {c : Cn} {H : Hp} {ω : Om} {ρ : Lb → Option Lb} {w w' : Ow} {v : V} {o : O} (h : RepO c H ω w v o) (e : ∀ f, ρ (w, f) = some (w', f)) : RepO c H (MP.rl ω ρ) w' v o := by
  cases o with
  | b x => exact RepB.rl h (e none)
  | ins C fs =>
    obtain ⟨a, dx, vs, e1, e2, e3, e4, e5⟩ := h
    refine ⟨a, dx, vs, e1, e2, (rl_some e3).trans (e none), e4, fun f => ?_⟩
    have q := e5 f
    split at q
    · next x hx =>
      obtain ⟨u, h1, h2⟩ := q
      exact ⟨u, h1, h2.rl (e (some f))⟩
    · exact q
theorem RepO.froz {c : Cn} {H : Hp} {ω : Om} {ρ : Lb → Option Lb} {w : Ow} {v : V} {o : O} {d : D} (h : RepO c H ω w v o) (hd : o.toD = some d) (e : ρ (w, none) = none) : Fz c.K (fr H (MP.rl ω ρ)) d v := by
  cases o with
  | b x => cases hd; exact RepB.froz h e
  | ins C fs => cases hd
/-- the heap goes on, what is owned stays as it is -/
theorem RepB.grow {c : Cn} {H H' : Hp} {ω ω' : Om} {l : Lb} {v : V} {b : B} (h : RepB c H ω l v b) (u : Up (fr H ω) (fr H' ω')) (k : ∀ a o, H a = some o → ω a = some l → H' a = some o ∧ ω' a = some l) : RepB c H' ω' l v b := by
  cases b with
  | d x => exact Fz.up u _ _ h
  | lst ds =>
    obtain ⟨a, vs, e1, e2, e3, e4⟩ := h
    obtain ⟨k1, k2⟩ := k a _ e2 e3
    exact ⟨a, vs, e1, k1, k2, FzL.up u _ _ e4⟩
  | dct ds =>
    obtain ⟨a, vs, e1, e2, e3, e4⟩ := h
    obtain ⟨k1, k2⟩ := k a _ e2 e3
    exact ⟨a, vs, e1, k1, k2, FzK.up u _ _ e4⟩
theorem RepO.grow {c : Cn} {H H' : Hp} {ω ω' : Om} {w : Ow} {v : V} {o : O} (h : RepO c H ω w v o) (u : Up (fr H ω) (fr H' ω')) (k : ∀ a o f, H a = some o → ω a = some (w, f) → H' a = some o ∧ ω' a = some (w, f)) : RepO c H' ω' w v o := by
  cases o with
  | b x => exact RepB.grow h u fun a o e1 e2 => k a o none e1 e2
  | ins C fs =>
    obtain ⟨a, dx, vs, e1, e2, e3, e4, e5⟩ := h
    obtain ⟨k1, k2⟩ := k a _ none e2 e3
    refine ⟨a, dx, vs, e1, k1, k2, e4, fun f => ?_⟩
    have q := e5 f
    split at q
    · next x hx =>
      obtain ⟨u', h1, h2⟩ := q
      exact ⟨u', h1, h2.grow u fun a o e1 e2 => k a o (some f) e1 e2⟩
    · exact q
/-- a value set aside stays -/
theorem RepO.fly {c : Cn} {H H' : Hp} {ω ω' : Om} {j : Nat} {v : V} {o : O} (h : RepO c H ω (.fly j) v o) (g : Grow H ω H' ω') (own : ∀ a l, ω a = some l → ∃ o, H a = some o ∧ Mut (some o)) : RepO c H' ω' (.fly j) v o :=
  h.grow g.up fun a o f e1 e2 => by
    have p : Prot (ω a) := by rw [e2]; trivial
    refine ⟨g.keep a o e1 p fun ps z => ?_, (g.lab a o e1 p).trans e2⟩
    obtain ⟨o', e3, e4⟩ := own a _ e2
    rw [e1] at e3; cases e3
    rw [z] at e4
    exact e4
theorem RepB.up {c : Cn} {H H' : Hp} {ω ω' : Om} {l : Lb} {v : V} {x : D} (h : RepB c H ω l v (.d x)) (g : Grow H ω H' ω') (l' : Lb) : RepB c H' ω' l' v (.d x) := Fz.up g.up _ _ h
/-- Rel with labels changed: slots keep theirs -/
theorem Rel.rl {c : Cn} {ω : Om} {σ : L2.St} {H : Hp} {e : Env'} {ρ : Lb → Option Lb} (r : Rel c ω σ H e) (hs : ∀ i f, ρ (.sl i, f) = some (.sl i, f)) : Rel c (MP.rl ω ρ) σ H e :=
  ⟨r.len, fun i o h => let ⟨v, h1, h2⟩ := r.slot i o h; ⟨v, h1, h2.rl (hs i)⟩, fun P hP => ⟨(r.tab P hP).1, rl_none (r.tab P hP).2⟩, fun a l h => by
    unfold MP.rl at h
    cases q : ω a with
    | none => rw [q] at h; cases h
    | some l' => exact r.own a l' q⟩
/-- drop the values under way -/
def dropT : Lb → Option Lb
  | (.tmp, _) => none
  | l => some l
theorem Grow.rl {H : Hp} {ω : Om} {ρ : Lb → Option Lb} (h : ∀ j f, ρ (.fly j, f) = some (.fly j, f)) : Grow H ω H (MP.rl ω ρ) := ⟨fun _ _ e _ _ => e, fun _ ps e => ⟨ps, e⟩, fun a o e p => by
  unfold MP.rl
  cases q : ω a with
  | none => rfl
  | some l =>
    rw [q] at p
    obtain ⟨w, f⟩ := l
    cases w with
    | fly j => exact h j f
    | sl i => exact p.elim
    | tmp => exact p.elim⟩
theorem Rel.drop {c : Cn} {ω : Om} {σ : L2.St} {H : Hp} {e : Env'} (r : Rel c ω σ H e) : Rel c (MP.rl ω dropT) σ H e := r.rl fun _ _ => rfl
theorem Grow.drop {H : Hp} {ω : Om} : Grow H ω H (MP.rl ω dropT) := Grow.rl fun _ _ => rfl
/-- fewer slots known -/
theorem Rel.weak {c : Cn} {ω : Om} {σ σ' : L2.St} {H : Hp} {e e' : Env'} (r : Rel c ω σ H e) (hl : σ'.length = e'.length) (h : ∀ (i : Nat) o, e'[i]? = some (some o) → e[i]? = some (some o) ∧ σ'[i]? = σ[i]?) : Rel c ω σ' H e' :=
  ⟨hl, fun i o q => let ⟨h1, h2⟩ := h i o q; let ⟨v, h3, h4⟩ := r.slot i o h1; ⟨v, h2.trans h3, h4⟩, r.tab, r.own⟩
/-- a new object, at p -/
theorem Rel.new {c : Cn} {ω : Om} {σ : L2.St} {H : Hp} {e : Env'} {p : Addr} {u : HO} {l : Option Lb} (r : Rel c ω σ H e) (hp : H p = none) (hm : l.isSome = true → Mut (some u)) :
    Rel c (fun a => if a = p then l else ω a) σ (upd H p u) e ∧ Grow H ω (upd H p u) (fun a => if a = p then l else ω a) := by
  have ne : ∀ a o, H a = some o → a ≠ p := fun a o e z => by rw [z, hp] at e; cases e
  have G : Grow H ω (upd H p u) (fun a => if a = p then l else ω a) := ⟨fun a o e _ _ => by rw [upd_ne (ne a o e)]; exact e, fun a ps e => ⟨ps, by rw [upd_ne (ne a _ e)]; exact e⟩, fun a o e _ => if_neg (ne a o e)⟩
  refine ⟨⟨r.len, fun i o h => ?_, fun P hP => ?_, fun a l' h => ?_⟩, G⟩
  · obtain ⟨v, h1, h2⟩ := r.slot i o h
    refine ⟨v, h1, h2.grow G.up fun a o f e1 e2 => ⟨by rw [upd_ne (ne a o e1)]; exact e1, ?_⟩⟩
    show (if a = p then l else ω a) = _
    rw [if_neg (ne a o e1)]; exact e2
  · obtain ⟨⟨ps, e1, e2⟩, h⟩ := r.tab P hP
    refine ⟨⟨ps, by rw [upd_ne (ne P _ e1)]; exact e1, e2⟩, ?_⟩
    show (if P = p then l else ω P) = none
    rw [if_neg (ne P _ e1)]; exact h
  · have h : (if a = p then l else ω a) = some l' := h
    by_cases z : a = p
    · rw [if_pos z] at h
      refine ⟨u, by rw [z]; exact upd_same, hm (by rw [h]; rfl)⟩
    · rw [if_neg z] at h
      obtain ⟨o, e1, e2⟩ := r.own a l' h
      exact ⟨o, by rw [upd_ne z]; exact e1, e2⟩
/-- what is read: frozen data, or what is owned -/
def Rdv (c : Cn) (H : Hp) (ω : Om) (v : V) (d : D) : Prop := ∃ l b, RepB c H ω l v b ∧ b.toD = d
theorem Rdv.of {c : Cn} {H : Hp} {ω : Om} {v : V} {d : D} (h : Fz c.K (fr H ω) d v) : Rdv c H ω v d := ⟨(.tmp, none), .d d, h, rfl⟩
theorem fr_le {H : Hp} {ω : Om} {a : Addr} {o : HO} (h : fr H ω a = some o) : H a = some o := (fr_some.mp h).2
theorem Rd.fr {H : Hp} {ω : Om} {a : Addr} {u : HO} (h : Rd (fr H ω) a u) : Rd H a u := by
  rcases h with h | ⟨o, h⟩
  · exact .inl (fr_le h)
  · exact .inr ⟨o, fr_le h⟩
theorem SqT.fr {K : PySem.W.Frag} {H : Hp} {ω : Om} {a : Addr} {vs : List V} (h : SqT K (fr H ω) a vs) : SqT K H a vs := by
  rcases h with h | h
  · exact .inl (Rd.fr h)
  · exact .inr h
theorem SqL.fr {K : PySem.W.Frag} {H : Hp} {ω : Om} {a : Addr} {vs : List V} (h : SqL K (fr H ω) a vs) : SqL K H a vs := by
  rcases h with h | h
  · exact .inl (Rd.fr h)
  · exact .inr h
theorem Rdv.lst {c : Cn} {H : Hp} {ω : Om} {v : V} {ds : List D} (h : Rdv c H ω v (.list ds)) : ∃ a vs, v = .ref a ∧ SqL c.K H a vs ∧ FzL c.K (MP.fr H ω) ds vs := by
  obtain ⟨l, b, h, e⟩ := h
  cases b with
  | d x =>
    cases (show x = .list ds from e)
    obtain ⟨a, vs, e1, e2, e3⟩ := h
    exact ⟨a, vs, e1, MP.SqL.fr e2, e3⟩
  | lst xs =>
    cases (show PyData.list xs = .list ds from e)
    obtain ⟨a, vs, e1, e2, e3, e4⟩ := h
    exact ⟨a, vs, e1, .inl (.inl e2), e4⟩
  | dct xs => cases (show PyData.dict xs = .list ds from e)
theorem Rdv.tup {c : Cn} {H : Hp} {ω : Om} {v : V} {ds : List D} (h : Rdv c H ω v (.tuple ds)) : ∃ a vs, v = .ref a ∧ SqT c.K H a vs ∧ FzL c.K (MP.fr H ω) ds vs := by
  obtain ⟨l, b, h, e⟩ := h
  cases b with
  | d x =>
    cases (show x = .tuple ds from e)
    obtain ⟨a, vs, e1, e2, e3⟩ := h
    exact ⟨a, vs, e1, MP.SqT.fr e2, e3⟩
  | lst xs => cases (show PyData.list xs = .tuple ds from e)
  | dct xs => cases (show PyData.dict xs = .tuple ds from e)
theorem Rdv.flat {c : Cn} {H : Hp} {ω : Om} {v : V} {d : D} (h : Rdv c H ω v d) (f : flatD d = true) : Fz c.K (MP.fr H ω) d v := by
  obtain ⟨l, b, h, e⟩ := h
  cases b with
  | d x => cases e; exact h
  | lst xs => cases e; cases f
  | dct xs => cases e; cases f
theorem Rdv.int {c : Cn} {H : Hp} {ω : Om} {v : V} {i : Int} (h : Rdv c H ω v (.int i)) : v = .int i := h.flat rfl
theorem Rdv.str {c : Cn} {H : Hp} {ω : Om} {v : V} {i : Str} (h : Rdv c H ω v (.str i)) : v = .str i := h.flat rfl
theorem Rdv.bool {c : Cn} {H : Hp} {ω : Om} {v : V} {i : Bool} (h : Rdv c H ω v (.bool i)) : v = .bl i := h.flat rfl
end MP
set_option linter.all false
set_option maxRecDepth 100000
set_option maxHeartbeats 1000000
/-! The operations on values: each by a rule of the layer. -/
namespace MP
open PySem PySem.Spec PyProof.Rows L2 GxR

theorem PE.imp {X : Cx} {e : Expr} {t t' : TE} (h : PE X e t) (k : ∀ σ H Q, t' σ H Q → t σ H Q) : PE X e t' := ⟨fun pins s σ H Q I w => h.run pins s σ H Q I (k σ H Q w)⟩
theorem PT.imp {X : Cx} {e : Expr} {t t' : TT} (h : PT X e t) (k : ∀ σ H Q, t' σ H Q → t σ H Q) : PT X e t' := ⟨fun pins s σ H Q I w => h.run pins s σ H Q I (k σ H Q w)⟩
theorem PA.imp {X : Cx} {e : List Expr} {t t' : TA} (h : PA X e t) (k : ∀ σ H Q, t' σ H Q → t σ H Q) : PA X e t' := ⟨fun pos pins s σ H Q I w => h.run pos pins s σ H Q I (k σ H Q w)⟩
theorem PS.imp {X : Cx} {e : Stmt} {t t' : TS} (h : PS X e t) (k : ∀ D σ H, t' D σ H → t D σ H) : PS X e t' := ⟨fun pins s σ H D I w => h.run pins s σ H D I (k D σ H w)⟩
theorem PSs.imp {X : Cx} {e : List Stmt} {t t' : TS} (h : PSs X e t) (k : ∀ D σ H, t' D σ H → t D σ H) : PSs X e t' := ⟨fun pins s σ H D I w => h.run pins s σ H D I (k D σ H w)⟩
theorem PI.imp {X : Cx} {tg e : Expr} {t t' : TI} (h : PI X tg e t) (k : ∀ σ H Q, t' σ H Q → t σ H Q) : PI X tg e t' := ⟨fun pins s σ H Q I w => h.run pins s σ H Q I (k σ H Q w)⟩

section
variable {X : Cx}
/-- list + list, list * int, of what is read -/
def rCatL (K : PySem.W.Frag) : R2 := fun x y H Q => ∃ l b xs zs, x = .ref l ∧ y = .ref b ∧ SqL K H l xs ∧ SqL K H b zs ∧ xs.length + zs.length ≤ sizeLine ∧ ∀ p, H p = none → Q (.ref p) (upd H p (.lst (xs ++ zs)))
theorem op_catL : OpR X (binaryOp .Add) (rCatL X.K) := by
  intro pins s σ H x y v u Q I rx ry h
  obtain ⟨l, b, xs, zs, rfl, rfl, hH, hB, hz, q⟩ := h
  cases rx
  cases ry
  obtain ⟨its, r, ⟨⟨cls, dd, data, sl⟩, n, ho, hc, hdn, hd⟩, _⟩ := I.list hH
  obtain ⟨its2, r2, ⟨⟨cls2, dd2, data2, sl2⟩, n2, ho2, hc2, hdn2, hd2⟩, _⟩ := I.list hB
  simp only at hc hd hc2 hd2
  subst hc hd hc2 hd2
  have l1 := r.length
  have l2 := r2.length
  refine concat_meets ⟨_, ho, rfl⟩ ⟨_, ho2, rfl⟩ noFill_list_add seq_list_add PySem.F.slot_list_add PySem.F.entry_list_add (PySem.F.args_list_add_2 _ _) (PyProof.Rows.list_addW l b its.toArray its2.toArray n n2 dd dd2 sl sl2 (by rw [List.size_toArray, List.size_toArray]; omega)) ⟨ho, ho2, ?_⟩
  rw [show its.toArray ++ its2.toArray = (its ++ its2).toArray by simp]
  exact ⟨.ref _, _, I.lnew (t' := s.toks) (r.append r2) (by rw [List.length_append]; omega), rfl, q _ I.fresh⟩
def rRepL (K : PySem.W.Frag) : R2 := fun x y H Q => ∃ l k xs, x = .ref l ∧ y = .int k ∧ SqL K H l xs ∧ -(2 ^ 63) ≤ k ∧ k < 2 ^ 63 ∧ xs.length * k.toNat ≤ sizeLine ∧
  ∀ p, H p = none → Q (.ref p) (upd H p (.lst (List.replicate k.toNat xs).flatten))
theorem op_repL : OpR X (binaryOp .Mult) (rRepL X.K) := by
  intro pins s σ H x y v u Q I rx ry h
  obtain ⟨l, k, xs, rfl, rfl, hH, h1, h2, hz, q⟩ := h
  cases rx
  obtain ⟨t, rfl⟩ := ry
  obtain ⟨its, r, ⟨⟨cls, dd, data, sl⟩, n, ho, hc, hdn, hd⟩, _⟩ := I.list hH
  simp only at hc hd
  subst hc hd
  have hl := r.length
  have sz : sizeLine = 2 ^ 24 := by decide
  have hz' : its.toArray.size * k.toNat ≤ sizeLine := by rw [List.size_toArray, ← hl]; exact hz
  refine wpAny_binaryOp_repeat_ref (T := "list") (U := "int") (by decide) ⟨_, ho, rfl⟩ (fun s' => typeIs_int s' k t) noFill_list_mul F.fills_int_mul F.slot_int_rmul repeat_list F.slot_int_index.lookup
    (call_meets F.slot_int_rmul (typeIs_int s k t) F.entry_int_rmul (F.args_int_rmul_2 _ _) (lm_int_rmul_list_any k t l its.toArray n dd sl)
      ⟨ho, rfl, ⟨_, ho, rfl⟩, call_meets F.slot_list_mul ⟨_, ho, rfl⟩ F.entry_list_mul (F.args_list_mul_2 _ _)
        (lm_list_mul_any l its.toArray n dd sl k t (by simp [Builtin.List.listFitsIndex]; omega) (by omega) (by rw [notLongL hz']; exact Bool.false_ne_true)) ⟨ho, ?_⟩⟩)
  rw [PyProof.Rows.listMul_foldl_if]
  exact ⟨.ref _, _, I.lnew (t' := s.toks) (r.rep k.toNat) (by rw [PyProof.Rows.lm_len_rep_flat, Nat.mul_comm]; exact hz), rfl, q _ I.fresh⟩
/-- tuple * 1 is the tuple, tuple * 0 the empty one -/
theorem tuple_mul1 (l : Addr) (items : Array Value) (n : Nat) (dd : Option Addr) (sl : Array (Option Value)) (u : Tok) :
    Meets (Builtin.«tuple.__mul__» ⟨[.ref l, .int 1 u], []⟩) (fun _ R s => s.heap.get? l = some { cls := .type "tuple", dict := dd, data := .seq items n, slots := sl } ∧
      R (.ok (.ret (Value.ref l))) s) :=
  .of_wp fun prog w A R s h => by
    obtain ⟨hp, g, d, tk, os⟩ := s
    obtain ⟨hl, h⟩ := h
    have f1 := AutoSeq1.idx_int
    wp_walk using wpAny_loadPart' hl
    exact ⟨_, rfl, h⟩
theorem tuple_mul0 (l : Addr) (items : Array Value) (n : Nat) (dd : Option Addr) (sl : Array (Option Value)) (u : Tok) (c : (items.isEmpty || (0 : Int) == 1) = false) :
    Meets (Builtin.«tuple.__mul__» ⟨[.ref l, .int 0 u], []⟩) (fun _ R s => s.heap.get? l = some { cls := .type "tuple", dict := dd, data := .seq items n, slots := sl } ∧
      R (.ok (.ret (Value.ref s.heap.objs.size))) { s with heap := s.heap.push { cls := Value.type "tuple", data := Data.seq #[] }, toks := s.toks }) :=
  .of_wp fun prog w A R s h => by
    obtain ⟨hp, g, d, tk, os⟩ := s
    obtain ⟨hl, h⟩ := h
    have f1 := AutoSeq1.idx_int
    wp_walk using wpAny_loadPart' hl
    repeat (first
      | (refine wpAny_ite_false (decide_eq_false (by rw [c]; exact Bool.false_ne_true)) ?_; wp_walk using wpAny_loadPart' hl))
    exact ⟨_, rfl, h⟩
def rRepT1 (K : PySem.W.Frag) : R2 := fun x y H Q => ∃ l xs, x = .ref l ∧ y = .int 1 ∧ SqT K H l xs ∧ xs ≠ [] ∧ Q (.ref l) H
def rRepT0 (K : PySem.W.Frag) : R2 := fun x y H Q => ∃ l xs, x = .ref l ∧ y = .int 0 ∧ SqT K H l xs ∧ xs ≠ [] ∧ ∀ p, H p = none → Q (.ref p) (upd H p (.tup []))
theorem op_repT1 : OpR X (binaryOp .Mult) (rRepT1 X.K) := by
  intro pins s σ H x y v u Q I rx ry h
  obtain ⟨l, xs, rfl, rfl, hT, hne, q⟩ := h
  cases rx
  obtain ⟨t, rfl⟩ := ry
  obtain ⟨its, r, ⟨⟨cls, dd, data, sl⟩, ho, hc, n, hd⟩, hs⟩ := I.tuple hT
  simp only at hc hd
  subst hc hd
  refine wpAny_binaryOp_repeat_ref (T := "tuple") (U := "int") (by decide) ⟨_, ho, rfl⟩ (fun s' => typeIs_int s' 1 t) noFill_tuple_mul F.fills_int_mul F.slot_int_rmul repeat_tuple F.slot_int_index.lookup
    (call_meets F.slot_int_rmul (typeIs_int s 1 t) F.entry_int_rmul (F.args_int_rmul_2 _ _) (int_rmul_tuple 1 t l its.toArray n dd sl)
      ⟨ho, rfl, ⟨_, ho, rfl⟩, call_meets F.slot_tuple_mul ⟨_, ho, rfl⟩ F.entry_tuple_mul (F.args_tuple_mul_2 _ _) (tuple_mul1 l its.toArray n dd sl t) ⟨ho, ?_⟩⟩)
  exact ⟨.ref l, H, I, rfl, q⟩
theorem op_repT0 : OpR X (binaryOp .Mult) (rRepT0 X.K) := by
  intro pins s σ H x y v u Q I rx ry h
  obtain ⟨l, xs, rfl, rfl, hT, hne, q⟩ := h
  cases rx
  obtain ⟨t, rfl⟩ := ry
  obtain ⟨its, r, ⟨⟨cls, dd, data, sl⟩, ho, hc, n, hd⟩, hs⟩ := I.tuple hT
  simp only at hc hd
  subst hc hd
  have c : (its.toArray.isEmpty || (0 : Int) == 1) = false := by
    cases its with
    | nil =>
      cases r
      exact absurd rfl hne
    | cons a b => rfl
  refine wpAny_binaryOp_repeat_ref (T := "tuple") (U := "int") (by decide) ⟨_, ho, rfl⟩ (fun s' => typeIs_int s' 0 t) noFill_tuple_mul F.fills_int_mul F.slot_int_rmul repeat_tuple F.slot_int_index.lookup
    (call_meets F.slot_int_rmul (typeIs_int s 0 t) F.entry_int_rmul (F.args_int_rmul_2 _ _) (int_rmul_tuple 0 t l its.toArray n dd sl)
      ⟨ho, rfl, ⟨_, ho, rfl⟩, call_meets F.slot_tuple_mul ⟨_, ho, rfl⟩ F.entry_tuple_mul (F.args_tuple_mul_2 _ _) (tuple_mul0 l its.toArray n dd sl t c) ⟨ho, ?_⟩⟩)
  refine ⟨.ref s.heap.objs.size, _, I.laid (t' := s.toks) (o := .tup []) (fun b ob q => Heap.get?_push_of_some _ q) (Nat.le_refl _) ?_, rfl, q _ (I.hok.fresh (Nat.le_refl _))⟩
  exact ⟨Nat.zero_le _, [], .nil, IsTup.new _ _⟩

/-- all of a binary operation -/
def opOf : Bop → Operator
  | .add => .Add | .sub => .Sub | .mul => .Mult | .fdiv => .FloorDiv | .mod => .Mod
def rBin (K : PySem.W.Frag) : Bop → R2
  | .add => fun x y H Q => rI0 (fun i j => .int (i + j)) x y H Q ∨ (∃ i j, x = .str i ∧ y = .str j ∧ i.length + j.length ≤ sizeLine ∧ Q (.str (i ++ j)) H) ∨ rCatL K x y H Q ∨ rCatA K x y H Q
  | .sub => rI0 fun i j => .int (i - j)
  | .mul => fun x y H Q => rI CMulW (fun i j => .int (i * j)) x y H Q ∨ rI CMul (fun i j => .int (i * j)) x y H Q ∨ rRepL K x y H Q ∨ rRepT K x y H Q ∨ rRepT1 K x y H Q ∨ rRepT0 K x y H Q
  | .fdiv => rI CDivW fun i j => .int (i / j)
  | .mod => rI (fun _ j => 0 < j) fun i j => .int (i % j)
theorem op_bin (o : Bop) : OpR X (binaryOp (opOf o)) (rBin X.K o) := by
  cases o with
  | add => exact op_add.or (op_add_str.or (op_catL.or op_catA))
  | sub => exact op_sub
  | mul => exact op_mulW.or (op_mul.or (op_repL.or (op_repT.or (op_repT1.or op_repT0))))
  | fdiv => exact op_fdivW
  | mod => exact op_mod
end
end MP
set_option linter.all false
set_option maxRecDepth 100000
set_option maxHeartbeats 1000000
/-! The evaluator is sound: values and operations. -/
namespace MP
open PySem PySem.Spec PyProof.Rows L2 GxR

/-- the wish of a value -/
abbrev Kw (c : Cn) (σ : L2.St) (e : Env') (r : O) (Q : VK) (ω : Om) (H : Hp) : Prop := ∀ ω' H' v, Grow H ω H' ω' → Rel c ω' σ H' e → RepO c H' ω' .tmp v r → Q v H'
section
variable {c : Cn} {σ : L2.St} {e : Env'} {ω : Om} {H : Hp} {Q : VK}
theorem fin_dat {d : D} {v : V} (R : Rel c ω σ H e) (h : Fz c.K (fr H ω) d v) (k : Kw c σ e (dat d) Q ω H) : Q v H := k ω H v Grow.refl R h
theorem fin_int {i : Int} (R : Rel c ω σ H e) (k : Kw c σ e (dat (.int i)) Q ω H) : Q (.int i) H := fin_dat (d := .int i) R rfl k
theorem fin_str {i : Str} (R : Rel c ω σ H e) (k : Kw c σ e (dat (.str i)) Q ω H) : Q (.str i) H := fin_dat (d := .str i) R rfl k
theorem fin_bl {i : Bool} (R : Rel c ω σ H e) (k : Kw c σ e (dat (.bool i)) Q ω H) : Q (.bl i) H := fin_dat (d := .bool i) R rfl k
theorem fin_lst {ds : List D} {vs : List V} (R : Rel c ω σ H e) (h : FzL c.K (fr H ω) ds vs) (k : Kw c σ e (.b (.lst ds)) Q ω H) : ∀ p, H p = none → Q (.ref p) (upd H p (.lst vs)) := fun p hp => by
  obtain ⟨R', G⟩ := R.new (u := .lst vs) (l := some (.tmp, none)) hp fun _ => trivial
  exact k _ _ _ G R' ⟨p, vs, rfl, upd_same, if_pos rfl, FzL.up G.up _ _ h⟩
theorem fin_tup {ds : List D} {vs : List V} (R : Rel c ω σ H e) (h : FzL c.K (fr H ω) ds vs) (k : Kw c σ e (dat (.tuple ds)) Q ω H) : ∀ p, H p = none → Q (.ref p) (upd H p (.tup vs)) := fun p hp => by
  obtain ⟨R', G⟩ := R.new (u := .tup vs) (l := none) hp fun z => nomatch z
  exact k _ _ _ G R' ⟨p, vs, rfl, .inl (.inl (fr_some.mpr ⟨if_pos rfl, upd_same⟩)), FzL.up G.up _ _ h⟩
theorem FzL.nil_iff {K : PySem.W.Frag} {F : Hp} {ds : List D} {vs : List V} (h : FzL K F ds vs) : vs = [] ↔ ds = [] := by
  have := h.length
  constructor
  · intro z; subst z; exact List.eq_nil_of_length_eq_zero this.symm
  · intro z; subst z; exact List.eq_nil_of_length_eq_zero this
theorem bin_ok {o : Bop} {x y : V} {d d' : D} {r : O} (R : Rel c ω σ H e) (hx : Rdv c H ω x d) (hy : Rdv c H ω y d') (hr : binD o d d' = some r) (k : Kw c σ e r Q ω H) : rBin c.K o x y H Q := by
  unfold binD at hr
  split at hr
  · cases hr
    exact .inl ⟨_, _, hx.int, hy.int, fin_int R k⟩
  · split at hr
    · next z =>
      cases hr
      exact .inr (.inl ⟨_, _, hx.str, hy.str, z, fin_str R k⟩)
    · cases hr
  · split at hr
    · next z =>
      cases hr
      obtain ⟨a, vs, rfl, h1, h2⟩ := hx.lst
      obtain ⟨b, ws, rfl, h3, h4⟩ := hy.lst
      exact .inr (.inr (.inl ⟨a, b, vs, ws, rfl, rfl, h1, h3, by rw [h2.length, h4.length]; exact z, fin_lst R (h2.append h4) k⟩))
    · cases hr
  · split at hr
    · next z =>
      cases hr
      obtain ⟨a, vs, rfl, h1, h2⟩ := hx.tup
      obtain ⟨b, ws, rfl, h3, h4⟩ := hy.tup
      refine .inr (.inr (.inr ⟨a, b, vs, ws, rfl, rfl, h1, h3, by rw [h2.length, h4.length]; exact z, fun z => ?_, fun z1 z2 => ?_, fun _ _ => fin_tup R (h2.append h4) k⟩))
      · have := h2.nil_iff.mp z
        subst this
        obtain ⟨l, b', hb, e1⟩ := hy
        cases b' with
        | d q => cases e1; exact fin_dat R hb k
        | lst q => cases e1
        | dct q => cases e1
      · have := h4.nil_iff.mp z2
        subst this
        rw [List.append_nil] at k
        obtain ⟨l, b', hb, e1⟩ := hx
        cases b' with
        | d q => cases e1; exact fin_dat R hb k
        | lst q => cases e1
        | dct q => cases e1
    · cases hr
  · cases hr
    exact ⟨_, _, hx.int, hy.int, fin_int R k⟩
  · split at hr
    · next z =>
      cases hr
      rcases z with z | z
      · exact .inr (.inl ⟨_, _, hx.int, hy.int, .inr z, fin_int R k⟩)
      · exact .inl ⟨_, _, hx.int, hy.int, z, fin_int R k⟩
    · cases hr
  · split at hr
    · next z =>
      cases hr
      obtain ⟨a, vs, rfl, h1, h2⟩ := hx.lst
      exact .inr (.inr (.inl ⟨a, _, vs, rfl, hy.int, h1, z.1, z.2.1, by rw [h2.length]; exact z.2.2, fin_lst R (h2.flatten _) k⟩))
    · cases hr
  · split at hr
    · next z =>
      cases hr
      obtain ⟨a, vs, e0, h1, h2⟩ := hx.tup
      obtain ⟨z1, z2, z3, z4⟩ := z
      have hne : vs ≠ [] := fun q => z1 (h2.nil_iff.mp q)
      rename_i xs k0
      by_cases q0 : k0 = 0
      · subst q0 e0
        exact .inr (.inr (.inr (.inr (.inr ⟨a, vs, rfl, hy.int, h1, hne, fin_tup R (by simp [FzL]) k⟩))))
      · by_cases q1 : k0 = 1
        · subst q1
          obtain ⟨l, b', hb, e1⟩ := hx
          have kk : Q x H := by
            cases b' with
            | d q =>
              cases e1
              have e2 : (List.replicate (1 : Int).toNat xs).flatten = xs := by simp
              rw [e2] at k
              exact fin_dat R hb k
            | lst q => cases e1
            | dct q => cases e1
          subst e0
          exact .inr (.inr (.inr (.inr (.inl ⟨a, vs, rfl, hy.int, h1, hne, kk⟩))))
        · subst e0
          exact .inr (.inr (.inr (.inl ⟨a, _, vs, rfl, hy.int, h1, hne, by omega, z4, by rw [h2.length]; exact z2, fin_tup R (h2.flatten _) k⟩)))
    · cases hr
  · split at hr
    · next z =>
      cases hr
      exact ⟨_, _, hx.int, hy.int, z, fin_int R k⟩
    · cases hr
  · split at hr
    · next z =>
      cases hr
      exact ⟨_, _, hx.int, hy.int, z, fin_int R k⟩
    · cases hr
  · cases hr

/-! comparisons -/
mutual
theorem Fz.dp {K : PySem.W.Frag} {F H : Hp} (u : ∀ a o, F a = some o → H a = some o) : ∀ (d : D) (v : V), Fz K F d v → PyData.canLay0 d = true → Dp K H v d
  | .none, v, h, _ => by rw [show v = .non from h]; exact .non
  | .bool b, v, h, _ => by rw [show v = .bl b from h]; exact .bl b
  | .int i, v, h, _ => by rw [show v = .int i from h]; exact .int i
  | .str x, v, h, _ => by rw [show v = .str x from h]; exact .str x
  | .list ds, v, ⟨a, vs, e, r, l⟩, g => by
    subst e
    refine .lst ?_ (FzL.dp u ds vs l (by simpa [PyData.canLay0] using g))
    rcases r with r | r
    · rcases r with r | ⟨o, r⟩
      · exact .inl (.inl (u _ _ r))
      · exact .inl (.inr ⟨o, u _ _ r⟩)
    · exact .inr r
  | .tuple ds, v, ⟨a, vs, e, r, l⟩, g => by
    subst e
    refine .tup ?_ (FzL.dp u ds vs l (by simpa [PyData.canLay0] using g))
    rcases r with r | r
    · rcases r with r | ⟨o, r⟩
      · exact .inl (.inl (u _ _ r))
      · exact .inl (.inr ⟨o, u _ _ r⟩)
    · exact .inr r
  | .dict kvs, v, h, g => by simp [PyData.canLay0] at g
theorem FzL.dp {K : PySem.W.Frag} {F H : Hp} (u : ∀ a o, F a = some o → H a = some o) : ∀ (ds : List D) (vs : List V), FzL K F ds vs → PyData.canLayAll0 ds = true → DpAll K H vs ds
  | [], vs, h, _ => by rw [show vs = [] from h]; exact .nil
  | d :: ds, vs, ⟨x, r, e, q, l⟩, g => by
    rw [e]
    have g' : PyData.canLay0 d = true ∧ PyData.canLayAll0 ds = true := by simpa [PyData.canLayAll0] using g
    exact .cons (Fz.dp u d x q g'.1) (FzL.dp u ds r l g'.2)
end

theorem Rdv.dp {x : V} {d : D} (h : Rdv c H ω x d) (g : SeqAt.shaped d = true) : Dp c.K H x d := by
  have g := SeqAt.canLay_of_shaped g
  obtain ⟨l, b, h, e⟩ := h
  cases b with
  | d q =>
    cases e
    exact Fz.dp (fun a o z => fr_le z) _ x h g
  | lst ds =>
    cases e
    obtain ⟨a, vs, e1, e2, e3, e4⟩ := h
    subst e1
    exact .lst (.inl (.inl e2)) (FzL.dp (fun a o z => fr_le z) ds vs e4 (by simpa [B.toD, PyData.canLay0] using g))
  | dct ds =>
    subst e
    simp [B.toD, PyData.canLay0] at g
theorem eqOk_cases {a b : D} (h : eqOk a b = true) : (SeqAt.shaped a = true ∧ SeqAt.shaped b = true) ∨ (∃ i j, a = .int i ∧ b = .int j) ∨ ∃ i j, a = .str i ∧ b = .str j := by
  unfold eqOk at h
  split at h
  · exact .inr (.inr ⟨_, _, rfl, rfl⟩)
  · exact .inr (.inl ⟨_, _, rfl, rfl⟩)
  · exact .inl (Bool.and_eq_true_iff.mp h)
def flatOf : D → V
  | .bool b => .bl b
  | .int i => .int i
  | .str x => .str x
  | _ => .non
theorem Fz.flatV {K : PySem.W.Frag} {F : Hp} {d : D} {v : V} (h : Fz K F d v) (f : flatD d = true) : v = flatOf d ∧ L2.flatV v = true := by
  cases d with
  | none => rw [show v = .non from h]; exact ⟨rfl, rfl⟩
  | bool b => rw [show v = .bl b from h]; exact ⟨rfl, rfl⟩
  | int i => rw [show v = .int i from h]; exact ⟨rfl, rfl⟩
  | str x => rw [show v = .str x from h]; exact ⟨rfl, rfl⟩
  | _ => cases f
theorem eqV_flat {a b : D} (fa : flatD a = true) (fb : flatD b = true) : eqV (flatOf a) (flatOf b) = PyData.eqv a b := by
  cases a <;> first | exact (Bool.false_ne_true fa).elim | (cases b <;> first | exact (Bool.false_ne_true fb).elim | (simp [flatOf, eqV, PyData.eqv]))
theorem inV_flat {K : PySem.W.Frag} {F : Hp} {a : D} (fa : flatD a = true) : ∀ {ds : List D} {vs : List V}, FzL K F ds vs → ds.all flatD = true → inV (flatOf a) vs = (ds.any fun z => PyData.eqv z a) ∧ vs.all L2.flatV = true
  | [], vs, h, _ => by rw [show vs = [] from h]; exact ⟨rfl, rfl⟩
  | d :: ds, vs, ⟨x, r, e, q, l⟩, g => by
    rw [List.all_cons, Bool.and_eq_true] at g
    obtain ⟨e1, e2⟩ := q.flatV g.1
    obtain ⟨i1, i2⟩ := inV_flat fa l g.2
    subst e
    refine ⟨?_, by rw [List.all_cons, e2, i2]; rfl⟩
    unfold inV at i1 ⊢
    rw [List.any_cons, List.any_cons, e1, eqV_flat g.1 fa, i1]
def cmpOf : Cop → CmpOp
  | .eq => .Eq | .ne => .NotEq | .lt => .Lt | .le => .LtE | .gt => .Gt | .ge => .GtE | .inn => .In | .notIn => .NotIn
def rCmp (K : PySem.W.Frag) : Cop → R2
  | .eq => fun x y H Q => rEqD K x y H Q ∨ rEq x y H Q
  | .ne => fun x y H Q => rNeD K x y H Q ∨ rNe x y H Q
  | .lt => rI0 fun i j => .bl (decide (i < j))
  | .le => rI0 fun i j => .bl (decide (i ≤ j))
  | .gt => rI0 fun i j => .bl (decide (j < i))
  | .ge => rI0 fun i j => .bl (decide (j ≤ i))
  | .inn => rIn K false
  | .notIn => rIn K true
theorem op_cmp {X : Cx} (hu : X.A.units + 64 < cLine) (o : Cop) : OpR X (compareOp (cmpOf o)) (rCmp X.K o) := by
  cases o with
  | eq => exact (op_eqD hu).or op_eq
  | ne => exact (op_neD hu).or op_ne
  | lt => exact op_lt
  | le => exact op_le
  | gt => exact op_gt
  | ge => exact op_ge
  | inn => exact op_in_seq
  | notIn => exact op_notIn_seq
theorem Rdv.seq {x : V} {d : D} {ds : List D} (h : Rdv c H ω x d) (e : seqD d = some ds) : ∃ p vs, x = .ref p ∧ (SqL c.K H p vs ∨ SqT c.K H p vs) ∧ FzL c.K (fr H ω) ds vs := by
  cases d with
  | list xs =>
    cases e
    obtain ⟨a, vs, e1, e2, e3⟩ := h.lst
    exact ⟨a, vs, e1, .inl e2, e3⟩
  | tuple xs =>
    cases e
    obtain ⟨a, vs, e1, e2, e3⟩ := h.tup
    exact ⟨a, vs, e1, .inr e2, e3⟩
  | _ => cases e
theorem cmp_ok {o : Cop} {x y : V} {d d' : D} {r : Bool} {K : V → Hp → Prop} (hx : Rdv c H ω x d) (hy : Rdv c H ω y d') (hr : cmpD o d d' = some r) (k : K (.bl r) H) : rCmp c.K o x y H K := by
  have eqs : eqOk d d' = true → (rEqD c.K x y H K ∨ rEq x y H K → False) → PyData.eqv d d' = r → False := fun g no e => by
    subst e
    have sh : SeqAt.shaped d = true → SeqAt.shaped d' = true → False := fun h1 h2 => no (.inl ⟨d, d', hx.dp h1, hy.dp h2, h1, h2, k⟩)
    have sc : ∀ z : Bool, scal x y = true → decide (x = y) = z → K (.bl z) H → False := fun z h1 h2 h3 => no (.inr ⟨h1, by rw [h2]; exact h3⟩)
    rcases eqOk_cases g with g' | ⟨i, j, rfl, rfl⟩ | ⟨i, j, rfl, rfl⟩
    · exact sh g'.1 g'.2
    · exact sc _ (by rw [hx.int, hy.int]; rfl) (by rw [hx.int, hy.int, dec_int]; simp [PyData.eqv]) k
    · exact sc _ (by rw [hx.str, hy.str]; rfl) (by rw [hx.str, hy.str, dec_str]; simp [PyData.eqv]) k
  have nes : eqOk d d' = true → (rNeD c.K x y H K ∨ rNe x y H K → False) → (!PyData.eqv d d') = r → False := fun g no e => by
    subst e
    have sh : SeqAt.shaped d = true → SeqAt.shaped d' = true → False := fun h1 h2 => no (.inl ⟨d, d', hx.dp h1, hy.dp h2, h1, h2, k⟩)
    have sc : ∀ z : Bool, scal x y = true → decide (x = y) = z → K (.bl (!z)) H → False := fun z h1 h2 h3 => no (.inr ⟨h1, by rw [h2]; exact h3⟩)
    rcases eqOk_cases g with g' | ⟨i, j, rfl, rfl⟩ | ⟨i, j, rfl, rfl⟩
    · exact sh g'.1 g'.2
    · exact sc _ (by rw [hx.int, hy.int]; rfl) (by rw [hx.int, hy.int, dec_int]; simp [PyData.eqv]) k
    · exact sc _ (by rw [hx.str, hy.str]; rfl) (by rw [hx.str, hy.str, dec_str]; simp [PyData.eqv]) k
  have ins : ∀ neg ds, seqD d' = some ds → flatD d = true → ds.all flatD = true → (if neg = true then !(ds.any fun z => PyData.eqv z d) else ds.any fun z => PyData.eqv z d) = r → rIn c.K neg x y H K := fun neg ds e1 f1 f2 e2 => by
    obtain ⟨p, vs, e3, e4, e5⟩ := hy.seq e1
    obtain ⟨e6, e7⟩ := (hx.flat f1).flatV f1
    obtain ⟨i1, i2⟩ := inV_flat f1 e5 f2
    subst e6
    refine ⟨p, vs, e3, e4, e7, i2, ?_⟩
    rw [i1, e2]
    exact k
  cases o with
  | eq =>
    unfold cmpD at hr
    simp only at hr
    split at hr
    · next g => exact Classical.byContradiction fun no => eqs g no (Option.some.inj hr)
    · cases hr
  | ne =>
    unfold cmpD at hr
    simp only at hr
    split at hr
    · next g => exact Classical.byContradiction fun no => nes g no (Option.some.inj hr)
    · cases hr
  | inn =>
    unfold cmpD at hr
    simp only at hr
    split at hr
    · split at hr
      · next g => exact ins false _ rfl g.1 g.2 (Option.some.inj hr)
      · cases hr
    · split at hr
      · next g => exact ins false _ rfl g.1 g.2 (Option.some.inj hr)
      · cases hr
    · cases hr
  | notIn =>
    unfold cmpD at hr
    simp only at hr
    split at hr
    · split at hr
      · next g => exact ins true _ rfl g.1 g.2 (Option.some.inj hr)
      · cases hr
    · split at hr
      · next g => exact ins true _ rfl g.1 g.2 (Option.some.inj hr)
      · cases hr
    · cases hr
  | _ =>
    unfold cmpD at hr
    simp only at hr
    split at hr
    · cases hr
      exact ⟨_, _, hx.int, hy.int, k⟩
    · cases hr
end
end MP
set_option linter.all false
set_option maxRecDepth 100000
set_option maxHeartbeats 1000000
/-! The evaluator is sound: expressions, construct by construct. -/
namespace MP
open PySem PySem.Spec PyProof.Rows L2 GxR

abbrev Sv (α : Type) := Env' → Option (α × Env')
/-- a value: it may be owned -/
def TO (c : Cn) (f : Sv O) : TE := fun σ H Q => ∃ ω e r e', Rel c ω σ H e ∧ f e = some (r, e') ∧ Kw c σ e' r Q ω H
/-- data -/
def TD (c : Cn) (f : Sv D) : TE := fun σ H Q => ∃ ω e r e', Rel c ω σ H e ∧ f e = some (r, e') ∧ ∀ ω' H' v, Grow H ω H' ω' → Rel c ω' σ H' e' → Fz c.K (fr H' ω') r v → Q v H'
/-- an operand: borrowed, or data -/
def Hold (c : Cn) (σ : L2.St) (m : M) (H : Hp) (ω : Om) (v : V) (d : D) : Prop :=
  match m with
  | .bor i => σ[i]? = some (some v)
  | _ => Fz c.K (fr H ω) d v
def TH (c : Cn) (m : M) (f : Sv D) : TE := fun σ H Q => ∃ ω e r e', Rel c ω σ H e ∧ f e = some (r, e') ∧ ∀ ω' H' v, Grow H ω H' ω' → Rel c ω' σ H' e' → Hold c σ m H' ω' v r → Q v H'
/-- a test -/
def TT' (c : Cn) (f : Sv Bool) : TT := fun σ H Q => ∃ ω e r e', Rel c ω σ H e ∧ f e = some (r, e') ∧ ∀ ω' H', Grow H ω H' ω' → Rel c ω' σ H' e' → Q r H'
/-- data, several -/
def TL (c : Cn) (f : Sv (List D)) : TA := fun σ H Q => ∃ ω e r e', Rel c ω σ H e ∧ f e = some (r, e') ∧ ∀ ω' H' vs, Grow H ω H' ω' → Rel c ω' σ H' e' → FzL c.K (fr H' ω') r vs → Q vs H'
/-- a slice's bound -/
def TP (c : Cn) (f : Sv (Option Int)) : L2.TO := fun σ H Q => ∃ ω e r e', Rel c ω σ H e ∧ f e = some (r, e') ∧ ∀ ω' H', Grow H ω H' ω' → Rel c ω' σ H' e' → Q r H'

section
variable {c : Cn} {σ : L2.St} {H H' : Hp} {ω ω' : Om} {Q : VK}
theorem Kw.grow {e : Env'} {r : O} (k : Kw c σ e r Q ω H) (g : Grow H ω H' ω') : Kw c σ e r Q ω' H' := fun ω2 H2 v g2 R h => k ω2 H2 v (g.trans g2) R h
theorem Hold.grow {m : M} {v : V} {d : D} (h : Hold c σ m H ω v d) (g : Grow H ω H' ω') : Hold c σ m H' ω' v d := by
  cases m with
  | bor i => exact h
  | _ => exact Fz.up g.up _ _ h
/-- what an operand's value reads, when it is used -/
theorem Hold.now {m : M} {v : V} {d x : D} {e : Env'} (h : Hold c σ m H ω v d) (R : Rel c ω σ H e) (n : now m d e = some x) : Rdv c H ω v x := by
  cases m with
  | bor i =>
    have h : σ[i]? = some (some v) := h
    have n : getB e i = some x := n
    unfold getB at n
    split at n
    · next b hb =>
      obtain ⟨v', e1, e2⟩ := R.slot i _ hb
      rw [h] at e1; cases e1
      exact ⟨_, b, e2, Option.some.inj n⟩
    · cases n
  | _ =>
    have n : some d = some x := n
    cases n
    exact Rdv.of h
theorem evb_now {C : CallF} {m : M} {e e' : Env'} {d : D} (h : evb C m e = some (d, e')) : now m d e' = some d := by
  cases m with
  | bor i =>
    unfold evb at h
    obtain ⟨x, h1, h2⟩ := Option.map_eq_some_iff.mp h
    cases h2
    exact h1
  | _ => rfl
theorem lift_some {r : Option (O × Env')} {d : D} {e : Env'} (h : lift r = some (d, e)) : ∃ o, r = some (o, e) ∧ o.toD = some d := by
  unfold lift at h
  obtain ⟨⟨o, e1⟩, h1, h2⟩ := Option.bind_eq_some_iff.mp h
  obtain ⟨x, h3, h4⟩ := Option.map_eq_some_iff.mp h2
  cases h4
  exact ⟨o, h1, h3⟩
end
section
variable {c : Cn} {X : Cx} {ex a b x1 x2 x3 : Expr}
/-- a value let go as data -/
theorem PE.data {f : Sv O} (h : PE X ex (TO c f)) : PE X ex (TD c fun e => lift (f e)) := PE.imp h fun σ H Q ⟨ω, e, r, e', R, hf, q⟩ => by
  obtain ⟨o, h1, h2⟩ := lift_some hf
  exact ⟨ω, e, o, e', R, h1, fun ω' H' v g R' rep => q _ H' v (g.trans Grow.drop) R'.drop (rep.froz h2 rfl)⟩
theorem PE.val {f : Sv D} (h : PE X ex (TD c f)) : PE X ex (TO c fun e => (f e).map fun p => (dat p.1, p.2)) := PE.imp h fun σ H Q ⟨ω, e, r, e', R, hf, q⟩ => by
  obtain ⟨⟨d, e1⟩, h1, h2⟩ := Option.map_eq_some_iff.mp hf
  cases h2
  exact ⟨ω, e, d, e1, R, h1, fun ω' H' v g R' rep => q _ H' v g R' rep⟩
theorem PE.congO {f g : Sv O} (h : PE X ex (TO c f)) (e : ∀ s r, g s = some r → f s = some r) : PE X ex (TO c g) := PE.imp h fun σ H Q ⟨ω, s, r, e', R, hf, q⟩ => ⟨ω, s, r, e', R, e _ _ hf, q⟩
theorem PE.congD {f g : Sv D} (h : PE X ex (TD c f)) (e : ∀ s r, g s = some r → f s = some r) : PE X ex (TD c g) := PE.imp h fun σ H Q ⟨ω, s, r, e', R, hf, q⟩ => ⟨ω, s, r, e', R, e _ _ hf, q⟩
theorem PE.none (t : TE) (h : ∀ σ H Q, ¬ t σ H Q) : PE X ex t := ⟨fun pins s σ H Q _ w => absurd w (h σ H Q)⟩

variable {C : CallF} {ma mb mc : M}
/-- an operation on two operands -/
theorem snd_op {r : R2} {f : D → D → Option O} (hr : ∀ {ω σ H e Q x y d d' o}, Rel c ω σ H e → Rdv c H ω x d → Rdv c H ω y d' → f d d' = some o → Kw c σ e o Q ω H → r x y H Q)
    (h : PE X ex (tOp r (TH c ma (evb C ma)) (TH c mb (evb C mb)))) :
    PE X ex (TO c fun e => (evb C ma e).bind fun p => (evb C mb p.2).bind fun q => (now ma p.1 q.2).bind fun x => (f x q.1).map fun r => (r, q.2)) := PE.imp h fun σ H Q ⟨ω, e, o, e', R, hf, q⟩ => by
  obtain ⟨⟨d, e1⟩, h1, hf⟩ := Option.bind_eq_some_iff.mp hf
  obtain ⟨⟨d', e2⟩, h2, hf⟩ := Option.bind_eq_some_iff.mp hf
  obtain ⟨x, h3, hf⟩ := Option.bind_eq_some_iff.mp hf
  obtain ⟨o', h4, hf⟩ := Option.map_eq_some_iff.mp hf
  cases hf
  refine ⟨ω, e, d, e1, R, h1, fun ω1 H1 v g1 R1 hv => ⟨ω1, e1, d', e2, R1, h2, fun ω2 H2 w g2 R2 hw => ?_⟩⟩
  exact hr R2 ((hv.grow g2).now R2 h3) (hw.now R2 (evb_now h2)) h4 (Kw.grow q (g1.trans g2))
theorem snd_bin {o : Bop} {pos : Pos} (hK : X.K = c.K) (ha : PE X a (TH c ma (evb C ma))) (hb : PE X b (TH c mb (evb C mb))) : PE X (.BinOp a (opOf o) b pos) (TO c (ev C (.bin o ma mb))) :=
  PE.congO (snd_op (r := rBin c.K o) (f := binD o) (fun R hx hy hr k => bin_ok R hx hy hr k) (by rw [← hK]; exact pe_op (op_bin o) ha hb)) fun s r h => by unfold ev at h; exact h
theorem cmpO {o : Cop} {d d' : D} {r : O} (h : (cmpD o d d').map (fun r => dat (.bool r)) = some r) : ∃ b, cmpD o d d' = some b ∧ r = dat (.bool b) := by
  obtain ⟨b, h1, h2⟩ := Option.map_eq_some_iff.mp h
  exact ⟨b, h1, h2.symm⟩
theorem snd_cmp {o : Cop} {pos : Pos} (hK : X.K = c.K) (hu : X.A.units + 64 < cLine) (hm : behindInMarks (cmpOf o) b = false) (ha : PE X a (TH c ma (evb C ma))) (hb : PE X b (TH c mb (evb C mb))) :
    PE X (.Compare a [cmpOf o] [b] pos) (TO c (ev C (.cmp o ma mb))) :=
  PE.congO (snd_op (r := rCmp c.K o) (f := fun d d' => (cmpD o d d').map fun r => dat (.bool r)) (fun R hx hy hr k => by
    obtain ⟨b, h1, rfl⟩ := cmpO hr
    exact cmp_ok hx hy h1 (fin_bl R k)) (by rw [← hK]; exact pe_cmpR (op_cmp hu o) ha hb hm)) fun s r h => by
    unfold ev at h
    obtain ⟨p, h1, h⟩ := Option.bind_eq_some_iff.mp h
    obtain ⟨q, h2, h⟩ := Option.bind_eq_some_iff.mp h
    obtain ⟨x, h3, h⟩ := Option.bind_eq_some_iff.mp h
    obtain ⟨z, h4, h⟩ := Option.map_eq_some_iff.mp h
    cases h
    rw [h1, Option.bind_some, h2, Option.bind_some, h3, Option.bind_some, h4]
    rfl

/-- a unary reading of an operand -/
theorem snd_un {r : V → Hp → VK → Prop} {f : D → Option O} (hr : ∀ {ω σ H e Q x d o}, Rel c ω σ H e → Rdv c H ω x d → f d = some o → Kw c σ e o Q ω H → r x H Q)
    (h : PE X ex (tUn r (TH c ma (evb C ma)))) : PE X ex (TO c fun e => (evb C ma e).bind fun p => (f p.1).map fun r => (r, p.2)) := PE.imp h fun σ H Q ⟨ω, e, o, e', R, hf, q⟩ => by
  obtain ⟨⟨d, e1⟩, h1, hf⟩ := Option.bind_eq_some_iff.mp hf
  obtain ⟨o', h2, hf⟩ := Option.map_eq_some_iff.mp hf
  cases hf
  exact ⟨ω, e, d, e1, R, h1, fun ω1 H1 v g1 R1 hv => hr R1 (hv.now R1 (evb_now h1)) h2 (Kw.grow q g1)⟩
/-- plain data as an operand -/
theorem PE.opnd (h : PE X ex (TD c fun e => lift (ev C ma e))) (hb : ∀ i, ma ≠ .bor i) : PE X ex (TH c ma (evb C ma)) := by
  cases ma with
  | bor i => exact absurd rfl (hb i)
  | _ => exact PE.imp h fun σ H Q ⟨ω, e, r, e', R, hf, q⟩ => ⟨ω, e, r, e', R, by unfold evb at hf; exact hf, fun ω' H' v g R' rep => q _ H' v g R' rep⟩
theorem snd_bor {i : Nat} {x : Str} {pos : Pos} (hN : X.N[i]? = some x) (hv : Vis X.env.scope x) (hd : (x == ("__debug__" : Str)) = false) (hcd : (x == ("__classdict__" : Str)) = false) : PE X (.Name x pos) (TH c (.bor i) (evb C (.bor i))) :=
  PE.imp (pe_var hN hv hd hcd) fun σ H Q ⟨ω, e, r, e', R, hf, q⟩ => by
    unfold evb at hf
    obtain ⟨d, h1, h2⟩ := Option.map_eq_some_iff.mp hf
    cases h2
    unfold getB at h1
    split at h1
    · next b hb =>
      obtain ⟨v, e1, e2⟩ := R.slot i _ hb
      exact ⟨v, e1, q ω H v Grow.refl R e1⟩
    · cases h1
/-- the owner of a slot's things lets them go -/
def movT (i : Nat) : Lb → Option Lb := fun l => if l.1 = .sl i then some (.tmp, l.2) else some l
theorem snd_mov {i : Nat} {x : Str} {pos : Pos} (hN : X.N[i]? = some x) (hv : Vis X.env.scope x) (hd : (x == ("__debug__" : Str)) = false) (hcd : (x == ("__classdict__" : Str)) = false) : PE X (.Name x pos) (TO c (ev C (.mov i))) :=
  PE.imp (pe_var hN hv hd hcd) fun σ H Q ⟨ω, e, r, e', R, hf, q⟩ => by
    unfold ev at hf
    split at hf
    · next y hy =>
      cases hf
      obtain ⟨v, e1, e2⟩ := R.slot i _ hy
      refine ⟨v, e1, q (rl ω (movT i)) H v (Grow.rl fun j f => if_neg (by simp)) ?_ (e2.rl fun f => if_pos rfl)⟩
      refine ⟨by rw [R.len, List.length_set], fun j o h => ?_, fun P hP => ⟨(R.tab P hP).1, rl_none (R.tab P hP).2⟩, fun a l h => ?_⟩
      · by_cases z : j = i
        · subst z
          rw [List.getElem?_set] at h
          split at h
          · split at h <;> cases h
          · exact absurd rfl ‹_›
        · rw [List.getElem?_set_ne (Ne.symm z)] at h
          obtain ⟨u, h1, h2⟩ := R.slot j o h
          exact ⟨u, h1, h2.rl fun f => if_neg (by intro q; cases q; exact z rfl)⟩
      · unfold rl at h
        cases q : ω a with
        | none => rw [q] at h; cases h
        | some l' => exact R.own a l' q
    · cases hf
theorem snd_cst {d : D} {v : V} (h : PE X ex (tC v)) (hd : ∀ F, Fz c.K F d v) : PE X ex (TO c (ev C (.cst d))) :=
  PE.imp h fun σ H Q ⟨ω, e, r, e', R, hf, q⟩ => by
    unfold ev at hf
    cases hf
    exact fin_dat R (hd _) q
theorem snd_glo {x : Str} {d : D} {v : V} (h : PE X ex (tC v)) (hd : ∀ F, Fz c.K F d v) : PE X ex (TO c (ev C (.glo x d))) :=
  PE.imp h fun σ H Q ⟨ω, e, r, e', R, hf, q⟩ => by
    unfold ev at hf
    cases hf
    exact fin_dat R (hd _) q
theorem snd_neg {pos : Pos} (ha : PE X a (TD c fun e => lift (ev C ma e))) : PE X (.UnaryOp .USub a pos) (TO c (ev C (.neg ma))) :=
  PE.imp (pe_un un_neg ha) fun σ H Q ⟨ω, e, r, e', R, hf, q⟩ => by
    unfold ev at hf
    obtain ⟨⟨d, e1⟩, h1, hf⟩ := Option.bind_eq_some_iff.mp hf
    cases d with
    | int i =>
      cases hf
      exact ⟨ω, e, _, _, R, h1, fun ω1 H1 v g1 R1 hv => ⟨i, hv, fin_int R1 (Kw.grow q g1)⟩⟩
    | _ => cases hf
theorem snd_not {pos : Pos} (ha : PE X a (TD c fun e => lift (ev C ma e))) : PE X (.UnaryOp .Not a pos) (TO c (ev C (.not ma))) :=
  PE.imp (pe_not ha) fun σ H Q ⟨ω, e, r, e', R, hf, q⟩ => by
    unfold ev at hf
    obtain ⟨⟨d, e1⟩, h1, hf⟩ := Option.bind_eq_some_iff.mp hf
    cases d with
    | bool b =>
      cases hf
      exact ⟨ω, e, _, _, R, h1, fun ω1 H1 v g1 R1 hv => ⟨b, hv, fin_bl R1 (Kw.grow q g1)⟩⟩
    | _ => cases hf
def isNone : D → Bool
  | .none => true
  | _ => false
theorem Rdv.isNon {H : Hp} {ω : Om} {v : V} {d : D} (h : Rdv c H ω v d) : decide (v = .non) = isNone d := by
  obtain ⟨l, b, h, e⟩ := h
  have isRef : ∀ a : Addr, v = .ref a → decide (v = .non) = false := fun a z => by rw [z]; rfl
  cases b with
  | d x =>
    subst e
    cases x with
    | none => rw [show v = .non from h]; rfl
    | bool b => rw [show v = .bl b from h]; rfl
    | int i => rw [show v = .int i from h]; rfl
    | str x => rw [show v = .str x from h]; rfl
    | list ds => obtain ⟨a, _, z, _⟩ := h; exact isRef a z
    | tuple ds => obtain ⟨a, _, z, _⟩ := h; exact isRef a z
    | dict ds => obtain ⟨a, _, z, _⟩ := h; exact isRef a z
  | lst xs => subst e; obtain ⟨a, _, z, _⟩ := h; exact isRef a z
  | dct xs => subst e; obtain ⟨a, _, z, _⟩ := h; exact isRef a z
theorem snd_isN {n : Bool} {pos pos' : Pos} {j : Nat} (ha : PE X a (TH c ma (evb C ma))) : PE X (.Compare a [if n = true then .IsNot else .Is] [.Constant .none j pos'] pos) (TO c (ev C (.isN n ma))) := by
  have fin : ∀ {σ H Q}, TO c (ev C (.isN n ma)) σ H Q → ∃ ω e d e', Rel c ω σ H e ∧ evb C ma e = some (d, e') ∧ ∀ ω' H' v, Grow H ω H' ω' → Rel c ω' σ H' e' → Hold c σ ma H' ω' v d → Q (.bl (if n = true then !decide (v = .non) else decide (v = .non))) H' := fun {σ H Q} ⟨ω, e, r, e', R, hf, q⟩ => by
    unfold ev at hf
    obtain ⟨⟨d, e1⟩, h1, hf⟩ := Option.bind_eq_some_iff.mp hf
    refine ⟨ω, e, d, e1, R, h1, fun ω1 H1 v g1 R1 hv => ?_⟩
    have z := (hv.now R1 (evb_now h1)).isNon
    rw [z]
    have k := Kw.grow q g1
    cases d with
    | none =>
      cases hf
      cases n <;> exact fin_bl R1 k
    | _ =>
      cases hf
      cases n <;> exact fin_bl R1 k
  cases n with
  | true => exact PE.imp (pe_cmp (pc_notN ha)) fun σ H Q h => fin h
  | false => exact PE.imp (pe_cmp (pc_isN ha)) fun σ H Q h => fin h
theorem snd_cmp2 {o o' : Cop} {pos : Pos} (hK : X.K = c.K) (hu : X.A.units + 64 < cLine) (hm : lastMarks [cmpOf o, cmpOf o'] [x2, x3] = false) (ha : PE X x1 (TD c fun e => lift (ev C ma e))) (hb : PE X x2 (TD c fun e => lift (ev C mb e))) (hc : PE X x3 (TD c fun e => lift (ev C mc e))) :
    PE X (.Compare x1 [cmpOf o, cmpOf o'] [x2, x3] pos) (TO c (ev C (.cmp2 o o' ma mb mc))) :=
  PE.imp (pe_chain (op_cmp hu o) (op_cmp hu o') ha hb hc hm) fun σ H Q ⟨ω, e, r, e', R, hf, q⟩ => by
    unfold ev at hf
    obtain ⟨⟨d, e1⟩, h1, hf⟩ := Option.bind_eq_some_iff.mp hf
    obtain ⟨⟨d', e2⟩, h2, hf⟩ := Option.bind_eq_some_iff.mp hf
    obtain ⟨b, h3, hf⟩ := Option.bind_eq_some_iff.mp hf
    refine ⟨ω, e, d, e1, R, h1, fun ω1 H1 v g1 R1 hv => ⟨ω1, e1, d', e2, R1, h2, fun ω2 H2 w g2 R2 hw => ?_⟩⟩
    rw [hK]
    refine cmp_ok (Rdv.of (Fz.up g2.up _ _ hv)) (Rdv.of hw) h3 ⟨b, rfl, ?_⟩
    cases b with
    | false =>
      rw [if_neg (by decide)] at hf ⊢
      cases hf
      exact fin_bl R2 (Kw.grow q (g1.trans g2))
    | true =>
      rw [if_pos rfl] at hf ⊢
      obtain ⟨⟨d3, e3⟩, h4, hf⟩ := Option.bind_eq_some_iff.mp hf
      obtain ⟨b', h5, hf⟩ := Option.map_eq_some_iff.mp hf
      cases hf
      refine ⟨ω2, e2, d3, e3, R2, h4, fun ω3 H3 u g3 R3 hu' => ?_⟩
      exact cmp_ok (Rdv.of (Fz.up g3.up _ _ hw)) (Rdv.of hu') h5 (fin_bl R3 (Kw.grow q ((g1.trans g2).trans g3)))
/-- a if t else b -/
theorem snd_ife {pos : Pos} (hc : PT X x1 (TT' c (tst C mc))) (ha : PE X x2 (TO c (ev C ma))) (hb : PE X x3 (TO c (ev C mb))) : PE X (.IfExp x1 x2 x3 pos) (TO c (ev C (.ife mc ma mb))) :=
  PE.imp (pe_ifExp hc ha hb) fun σ H Q ⟨ω, e, r, e', R, hf, q⟩ => by
    unfold ev at hf
    obtain ⟨⟨d, e1⟩, h1, hf⟩ := Option.bind_eq_some_iff.mp hf
    obtain ⟨b, h2, hf⟩ := Option.bind_eq_some_iff.mp hf
    refine ⟨ω, e, b, e1, R, by unfold tst; rw [h1, Option.bind_some, h2]; rfl, fun ω1 H1 g1 R1 => ?_⟩
    cases b with
    | true =>
      rw [if_pos rfl] at hf ⊢
      exact ⟨ω1, e1, r, e', R1, hf, Kw.grow q g1⟩
    | false =>
      rw [if_neg (by decide)] at hf ⊢
      exact ⟨ω1, e1, r, e', R1, hf, Kw.grow q g1⟩
/-- a test whose value is a bool -/
theorem PT.ofVal (h : PE X a (TO c (ev C ma))) (he : ∀ whole, isTrue a X.env whole = (do let v ← whole; standAt a.pos; holding [v] (truthy v))) : PT X a (TT' c (tst C ma)) :=
  PT.imp (pt_val (PE.data h) he) fun σ H Q ⟨ω, e, r, e', R, hf, q⟩ => by
    unfold tst at hf
    obtain ⟨⟨d, e1⟩, h1, hf⟩ := Option.bind_eq_some_iff.mp hf
    obtain ⟨b, h2, hf⟩ := Option.map_eq_some_iff.mp hf
    cases hf
    refine ⟨ω, e, d, e1, R, h1, fun ω1 H1 v g1 R1 hv => ?_⟩
    cases d with
    | bool b' =>
      cases h2
      exact ⟨_, hv, q ω1 H1 g1 R1⟩
    | _ => cases h2
end
end MP
set_option linter.all false
set_option maxRecDepth 100000
set_option maxHeartbeats 1000000
/-! The evaluator is sound: displays, places, builtins, tests. -/
namespace MP
open PySem PySem.Spec PyProof.Rows L2 GxR
section
variable {c : Cn} {X : Cx} {C : CallF} {ex a b x1 x2 x3 : Expr} {es : List Expr} {ma mb mc : M} {ms : Ms} {pos : Pos}
/-! displays -/
theorem snd_nil : PA X [] (TL c (evs C .nil)) := PA.imp pa_nil fun σ H Q ⟨ω, e, r, e', R, hf, q⟩ => by
  unfold evs at hf
  cases hf
  exact q ω H [] Grow.refl R rfl
theorem snd_cons (ha : PE X a (TD c fun e => lift (ev C ma e))) (hr : PA X es (TL c (evs C ms))) (hs : starEach (a :: es) X.env = (false, eval a X.env) :: starEach es X.env) : PA X (a :: es) (TL c (evs C (.cons ma ms))) :=
  PA.imp (pa_cons ha hr hs) fun σ H Q ⟨ω, e, r, e', R, hf, q⟩ => by
    unfold evs at hf
    obtain ⟨⟨d, e1⟩, h1, hf⟩ := Option.bind_eq_some_iff.mp hf
    obtain ⟨⟨ds, e2⟩, h2, hf⟩ := Option.map_eq_some_iff.mp hf
    cases hf
    exact ⟨ω, e, d, e1, R, h1, fun ω1 H1 v g1 R1 hv => ⟨ω1, e1, ds, e2, R1, h2, fun ω2 H2 vs g2 R2 hvs => q ω2 H2 _ (g1.trans g2) R2 ⟨v, vs, rfl, Fz.up g2.up _ _ hv, hvs⟩⟩⟩
theorem snd_tup {k : Nat} (h : PA X es (TL c (evs C ms))) : PE X (.Tuple es k pos) (TO c (ev C (.tup ms))) := PE.imp (pe_tup h) fun σ H Q ⟨ω, e, r, e', R, hf, q⟩ => by
  unfold ev at hf
  obtain ⟨⟨ds, e1⟩, h1, hf⟩ := Option.bind_eq_some_iff.mp hf
  split at hf
  · next z =>
    cases hf
    exact ⟨ω, e, ds, _, R, h1, fun ω1 H1 vs g1 R1 hv => ⟨by rw [hv.length]; exact z, fin_tup R1 hv (Kw.grow q g1)⟩⟩
  · cases hf
theorem snd_lst (h : PA X es (TL c (evs C ms))) : PE X (.List es pos) (TO c (ev C (.lst ms))) := PE.imp (pe_lst h) fun σ H Q ⟨ω, e, r, e', R, hf, q⟩ => by
  unfold ev at hf
  obtain ⟨⟨ds, e1⟩, h1, hf⟩ := Option.bind_eq_some_iff.mp hf
  split at hf
  · next z =>
    cases hf
    exact ⟨ω, e, ds, _, R, h1, fun ω1 H1 vs g1 R1 hv => ⟨by rw [hv.length]; exact z, fin_lst R1 hv (Kw.grow q g1)⟩⟩
  · cases hf
theorem snd_dct0 : PE X (.Dict [] [] pos) (TO c (ev C .dct0)) := PE.imp pe_dnewK fun σ H Q ⟨ω, e, r, e', R, hf, q⟩ => by
  unfold ev at hf
  cases hf
  intro p hp
  obtain ⟨R', G⟩ := R.new (u := .dK []) (l := some (.tmp, none)) hp fun _ => trivial
  exact q _ _ _ G R' ⟨p, [], rfl, upd_same, if_pos rfl, rfl⟩
/-! places -/
theorem atI_get {K : PySem.W.Frag} {F : Hp} {ds : List D} {vs : List V} {i : Int} {d : D} (h : FzL K F ds vs) (e : atD ds i = some d) : ∃ v, atI vs i = some v ∧ Fz K F d v := by
  unfold atD atI at e
  obtain ⟨j, h1, h2⟩ := Option.bind_eq_some_iff.mp e
  obtain ⟨v, h3, h4⟩ := h.get h2
  refine ⟨v, ?_, h4⟩
  unfold atI
  rw [h.length, h1]
  exact h3
theorem snd_idx (hK : X.K = c.K) (hp : PlainIx b) (ha : PE X a (TH c ma (evb C ma))) (hb : PE X b (TD c fun e => lift (ev C mb e))) : PE X (.Subscript a b pos) (TO c (ev C (.idx ma mb))) :=
  PE.imp (pe_ix (ix_list.or ix_tup) ha hb hp) fun σ H Q ⟨ω, e, r, e', R, hf, q⟩ => by
    unfold ev at hf
    obtain ⟨⟨d, e1⟩, h1, hf⟩ := Option.bind_eq_some_iff.mp hf
    obtain ⟨⟨d', e2⟩, h2, hf⟩ := Option.bind_eq_some_iff.mp hf
    obtain ⟨x, h3, hf⟩ := Option.bind_eq_some_iff.mp hf
    obtain ⟨o', h4, hf⟩ := Option.map_eq_some_iff.mp hf
    cases hf
    refine ⟨ω, e, d, e1, R, h1, fun ω1 H1 v g1 R1 hv => ⟨ω1, e1, d', _, R1, h2, fun ω2 H2 w g2 R2 hw => ?_⟩⟩
    have rv := (hv.grow g2).now R2 h3
    have k := Kw.grow q (g1.trans g2)
    rw [hK]
    have hi : ∃ k, d' = .int k := by
      cases d' with
      | int i0 => exact ⟨i0, rfl⟩
      | _ => cases x <;> exact absurd h4 (by simp [idxD])
    obtain ⟨k0, rfl⟩ := hi
    cases x with
    | list xs =>
      obtain ⟨l, vs, e3, e4, e5⟩ := rv.lst
      obtain ⟨z, h5, h6⟩ := atI_get e5 h4
      exact .inl ⟨l, vs, _, z, e3, hw, e4, h5, fin_dat R2 h6 k⟩
    | tuple xs =>
      obtain ⟨l, vs, e3, e4, e5⟩ := rv.tup
      obtain ⟨z, h5, h6⟩ := atI_get e5 h4
      exact .inr ⟨l, vs, _, z, e3, hw, e4, h5, fin_dat R2 h6 k⟩
    | _ => exact absurd h4 (by simp [idxD])
theorem FzL.cut {K : PySem.W.Frag} {F : Hp} {ds : List D} {vs : List V} (h : FzL K F ds vs) (lo hi : Option Int) : FzL K F (cutD ds lo hi) (cutV vs lo hi) := by
  unfold cutD cutV
  rw [h.length]
  exact (h.drop _).take _
theorem cutD_whole {ds : List D} {lo hi : Option Int} (h1 : HT.sIx ds.length 0 lo = 0) (h2 : HT.sIx ds.length ds.length hi = ds.length) : cutD ds lo hi = ds := by
  unfold cutD
  rw [h1, h2]
  simp
theorem snd_po_none : PO X none (TP c (evo C .nul)) := ⟨fun pins s σ H Q I ⟨ω, e, r, e', R, hf, q⟩ => by
  unfold evo at hf
  cases hf
  exact po_none.run pins s σ H Q I (q ω H Grow.refl R)⟩
theorem snd_po_some (ha : PE X a (TD c fun e => lift (ev C ma e))) (hn : ma ≠ .nul) : PO X (some a) (TP c (evo C ma)) := ⟨fun pins s σ H Q I ⟨ω, e, r, e', R, hf, q⟩ => by
  have hf : ((lift (ev C ma e)).bind fun p => match p.1 with
    | .int i => some (some i, p.2)
    | _ => none) = some (r, e') := by
    cases ma with
    | nul => exact absurd rfl hn
    | _ => unfold evo at hf; exact hf
  obtain ⟨⟨d, e1⟩, h1, hf⟩ := Option.bind_eq_some_iff.mp hf
  refine (po_some ha).run pins s σ H Q I ⟨ω, e, d, e1, R, h1, fun ω1 H1 v g1 R1 hv => ?_⟩
  cases d with
  | int i =>
    cases hf
    exact ⟨i, hv, q ω1 H1 g1 R1⟩
  | _ => cases hf⟩
theorem snd_slc {lo hi : Option Expr} {p2 : Pos} (hK : X.K = c.K) (ha : PE X a (TH c ma (evb C ma))) (hl : PO X lo (TP c (evo C mb))) (hh : PO X hi (TP c (evo C mc))) : PE X (.Subscript a (.Slice lo hi none p2) pos) (TO c (ev C (.slc ma mb mc))) :=
  PE.imp (pe_slice (sl_list.or sl_tupA) ha hl hh) fun σ H Q ⟨ω, e, r, e', R, hf, q⟩ => by
    unfold ev at hf
    obtain ⟨⟨d, e1⟩, h1, hf⟩ := Option.bind_eq_some_iff.mp hf
    obtain ⟨⟨o1, e2⟩, h2, hf⟩ := Option.bind_eq_some_iff.mp hf
    obtain ⟨⟨o2, e3⟩, h3, hf⟩ := Option.bind_eq_some_iff.mp hf
    obtain ⟨x, h4, hf⟩ := Option.bind_eq_some_iff.mp hf
    obtain ⟨o', h5, hf⟩ := Option.map_eq_some_iff.mp hf
    cases hf
    refine ⟨ω, e, d, e1, R, h1, fun ω1 H1 v g1 R1 hv => ⟨ω1, e1, o1, e2, R1, h2, fun ω2 H2 g2 R2 => ⟨ω2, e2, o2, _, R2, h3, fun ω3 H3 g3 R3 => ?_⟩⟩⟩
    have rv := ((hv.grow g2).grow g3).now R3 h4
    have k := Kw.grow q ((g1.trans g2).trans g3)
    rw [hK]
    unfold slcD at h5
    split at h5
    · cases h5
      obtain ⟨l, vs, e4, e5, e6⟩ := rv.lst
      exact .inl ⟨l, vs, e4, e5, fin_lst R3 (e6.cut _ _) k⟩
    · cases h5
      obtain ⟨l, vs, e4, e5, e6⟩ := rv.tup
      refine .inr ⟨l, vs, e4, e5, fun z => ?_, fun _ => fin_tup R3 (e6.cut _ _) k⟩
      rw [e6.length] at z
      rw [cutD_whole z.1 z.2] at k
      obtain ⟨l', b', hb, e7⟩ := rv
      rw [← e4]
      cases b' with
      | d q' => cases e7; exact fin_dat R3 hb k
      | lst q' => cases e7
      | dct q' => cases e7
    · cases h5
/-! and, or -/
theorem snd_ao1 {op : BoolOp} {go : Bool} (ha : PE X a (TD c fun e => lift (ev C ma e))) : PE X (.BoolOp op [a] pos) (TD c fun e => (evAO C go (.cons ma .nil) e).map fun p => (.bool p.1, p.2)) :=
  PE.imp (pe_one ha) fun σ H Q ⟨ω, e, r, e', R, hf, q⟩ => by
    obtain ⟨⟨b, e1⟩, h1, hf⟩ := Option.map_eq_some_iff.mp hf
    cases hf
    unfold evAO at h1
    obtain ⟨⟨d, e2⟩, h2, h1⟩ := Option.bind_eq_some_iff.mp h1
    obtain ⟨k, h3, h1⟩ := Option.bind_eq_some_iff.mp h1
    cases d with
    | bool k' =>
      cases h3
      have e3 : b = k ∧ e1 = e2 := by
        by_cases z : k = go
        · rw [if_pos z] at h1
          unfold evAO at h1
          cases h1
          exact ⟨z.symm, rfl⟩
        · rw [if_neg z] at h1
          cases h1
          exact ⟨by cases k <;> cases go <;> simp_all, rfl⟩
      obtain ⟨rfl, rfl⟩ := e3
      exact ⟨ω, e, _, _, R, h2, q⟩
    | _ => cases h3
theorem snd_and {rest : List Expr} {mr : Ms} (ha : PE X a (TD c fun e => lift (ev C ma e))) (hb : PE X (.BoolOp .And (b :: rest) pos) (TD c fun e => (evAO C true mr e).map fun p => (.bool p.1, p.2))) :
    PE X (.BoolOp .And (a :: b :: rest) pos) (TD c fun e => (evAO C true (.cons ma mr) e).map fun p => (.bool p.1, p.2)) :=
  PE.imp (pe_and ha hb) fun σ H Q ⟨ω, e, r, e', R, hf, q⟩ => by
    obtain ⟨⟨b, e1⟩, h1, hf⟩ := Option.map_eq_some_iff.mp hf
    cases hf
    unfold evAO at h1
    obtain ⟨⟨d, e2⟩, h2, h1⟩ := Option.bind_eq_some_iff.mp h1
    obtain ⟨k, h3, h1⟩ := Option.bind_eq_some_iff.mp h1
    cases d with
    | bool k' =>
      cases h3
      refine ⟨ω, e, _, _, R, h2, fun ω1 H1 v g1 R1 hv => ⟨k, hv, ?_⟩⟩
      cases k with
      | true =>
        rw [if_pos rfl] at h1 ⊢
        exact ⟨ω1, e2, _, _, R1, by show Option.map _ (evAO C _ mr e2) = _; rw [show evAO C _ mr e2 = some (b, e1) from h1]; rfl, fun ω2 H2 v g2 => q ω2 H2 v (g1.trans g2)⟩
      | false =>
        rw [if_neg (by decide)] at h1 ⊢
        cases h1
        exact q ω1 H1 _ g1 R1 rfl
    | _ => cases h3
theorem snd_or {rest : List Expr} {mr : Ms} (ha : PE X a (TD c fun e => lift (ev C ma e))) (hb : PE X (.BoolOp .Or (b :: rest) pos) (TD c fun e => (evAO C false mr e).map fun p => (.bool p.1, p.2))) :
    PE X (.BoolOp .Or (a :: b :: rest) pos) (TD c fun e => (evAO C false (.cons ma mr) e).map fun p => (.bool p.1, p.2)) :=
  PE.imp (pe_or ha hb) fun σ H Q ⟨ω, e, r, e', R, hf, q⟩ => by
    obtain ⟨⟨b, e1⟩, h1, hf⟩ := Option.map_eq_some_iff.mp hf
    cases hf
    unfold evAO at h1
    obtain ⟨⟨d, e2⟩, h2, h1⟩ := Option.bind_eq_some_iff.mp h1
    obtain ⟨k, h3, h1⟩ := Option.bind_eq_some_iff.mp h1
    cases d with
    | bool k' =>
      cases h3
      refine ⟨ω, e, _, _, R, h2, fun ω1 H1 v g1 R1 hv => ⟨k, hv, ?_⟩⟩
      cases k with
      | false =>
        rw [if_pos rfl] at h1
        rw [if_neg (by decide)]
        exact ⟨ω1, e2, _, _, R1, by show Option.map _ (evAO C _ mr e2) = _; rw [show evAO C _ mr e2 = some (b, e1) from h1]; rfl, fun ω2 H2 v g2 => q ω2 H2 v (g1.trans g2)⟩
      | true =>
        rw [if_neg (by decide)] at h1
        rw [if_pos rfl]
        cases h1
        exact q ω1 H1 _ g1 R1 rfl
    | _ => cases h3
/-! tests -/
theorem tst_some {e e' : Env'} {k : Bool} (h : tst C ma e = some (k, e')) : lift (ev C ma e) = some (.bool k, e') := by
  unfold tst at h
  obtain ⟨⟨d, e1⟩, h1, h⟩ := Option.bind_eq_some_iff.mp h
  obtain ⟨k', h2, h⟩ := Option.map_eq_some_iff.mp h
  cases h
  cases d with
  | bool k'' => cases h2; exact h1
  | _ => cases h2
theorem sndT_not (ha : PT X a (TT' c (tst C ma))) : PT X (.UnaryOp .Not a pos) (TT' c (tst C (.not ma))) :=
  PT.imp (pt_not ha) fun σ H Q ⟨ω, e, r, e', R, hf, q⟩ => by
    have h := tst_some hf
    obtain ⟨o, h1, h2⟩ := lift_some h
    unfold ev at h1
    obtain ⟨⟨d, e1⟩, h3, h1⟩ := Option.bind_eq_some_iff.mp h1
    obtain ⟨k, h4, h1⟩ := Option.map_eq_some_iff.mp h1
    cases h1
    refine ⟨ω, e, k, _, R, by unfold tst; rw [h3, Option.bind_some, h4]; rfl, fun ω1 H1 g1 R1 => ?_⟩
    have e2 : PyData.bool (!k) = .bool r := Option.some.inj h2
    cases e2
    exact q ω1 H1 g1 R1
theorem PW.imp {X : Cx} {e : Expr} {t t' : TT} (h : PW X e t) (k : ∀ σ H Q, t' σ H Q → t σ H Q) : PW X e t' := ⟨fun wh pins s σ H Q I w => h.run wh pins s σ H Q I (k σ H Q w)⟩
theorem sndT_one {op : BoolOp} {go : Bool} (ha : PT X a (TT' c (tst C ma))) : PW X (.BoolOp op [a] pos) (TT' c (evAO C go (.cons ma .nil))) := by
  have k : ∀ σ H Q, TT' c (evAO C go (.cons ma .nil)) σ H Q → TT' c (tst C ma) σ H Q := fun σ H Q ⟨ω, e, r, e', R, h1, q⟩ => by
    unfold evAO at h1
    obtain ⟨⟨d, e2⟩, h2, h1⟩ := Option.bind_eq_some_iff.mp h1
    obtain ⟨k, h3, h1⟩ := Option.bind_eq_some_iff.mp h1
    have e3 : r = k ∧ e' = e2 := by
      by_cases z : k = go
      · rw [if_pos z] at h1
        unfold evAO at h1
        cases h1
        exact ⟨z.symm, rfl⟩
      · rw [if_neg z] at h1
        cases h1
        exact ⟨by cases k <;> cases go <;> simp_all, rfl⟩
    obtain ⟨rfl, rfl⟩ := e3
    exact ⟨ω, e, _, _, R, by unfold tst; rw [h2, Option.bind_some, h3]; rfl, q⟩
  cases op with
  | And => exact PW.imp (pw_and1 ha) k
  | Or => exact PW.imp (pw_or1 ha) k
theorem sndT_and {rest : List Expr} {mr : Ms} (ha : PT X a (TT' c (tst C ma))) (hb : PW X (.BoolOp .And (b :: rest) pos) (TT' c (evAO C true mr))) : PW X (.BoolOp .And (a :: b :: rest) pos) (TT' c (evAO C true (.cons ma mr))) :=
  PW.imp (pw_and ha hb) fun σ H Q ⟨ω, e, r, e', R, h1, q⟩ => by
    unfold evAO at h1
    obtain ⟨⟨d, e2⟩, h2, h1⟩ := Option.bind_eq_some_iff.mp h1
    obtain ⟨k, h3, h1⟩ := Option.bind_eq_some_iff.mp h1
    refine ⟨ω, e, k, e2, R, by unfold tst; rw [h2, Option.bind_some, h3]; rfl, fun ω1 H1 g1 R1 => ?_⟩
    cases k with
    | true =>
      rw [if_pos rfl] at h1 ⊢
      exact ⟨ω1, e2, _, _, R1, h1, fun ω2 H2 g2 => q ω2 H2 (g1.trans g2)⟩
    | false =>
      rw [if_neg (by decide)] at h1 ⊢
      cases h1
      exact q ω1 H1 g1 R1
theorem sndT_or {rest : List Expr} {mr : Ms} (ha : PT X a (TT' c (tst C ma))) (hb : PW X (.BoolOp .Or (b :: rest) pos) (TT' c (evAO C false mr))) : PW X (.BoolOp .Or (a :: b :: rest) pos) (TT' c (evAO C false (.cons ma mr))) :=
  PW.imp (pw_or ha hb) fun σ H Q ⟨ω, e, r, e', R, h1, q⟩ => by
    unfold evAO at h1
    obtain ⟨⟨d, e2⟩, h2, h1⟩ := Option.bind_eq_some_iff.mp h1
    obtain ⟨k, h3, h1⟩ := Option.bind_eq_some_iff.mp h1
    refine ⟨ω, e, k, e2, R, by unfold tst; rw [h2, Option.bind_some, h3]; rfl, fun ω1 H1 g1 R1 => ?_⟩
    cases k with
    | false =>
      rw [if_pos rfl] at h1
      rw [if_neg (by decide)]
      exact ⟨ω1, e2, _, _, R1, h1, fun ω2 H2 g2 => q ω2 H2 (g1.trans g2)⟩
    | true =>
      rw [if_neg (by decide)] at h1
      rw [if_pos rfl]
      cases h1
      exact q ω1 H1 g1 R1
theorem sndT_ao {go : Bool} {m : M} (hm : ∀ e, ev C m e = (evAO C go ms e).map fun p => (dat (.bool p.1), p.2)) (h : PW X ex (TT' c (evAO C go ms))) : PT X ex (TT' c (tst C m)) :=
  PT.imp h.pt fun σ H Q ⟨ω, e, r, e', R, h1, q⟩ => by
    obtain ⟨o, h2, h3⟩ := lift_some (tst_some h1)
    rw [hm] at h2
    obtain ⟨⟨b, e1⟩, h4, h2⟩ := Option.map_eq_some_iff.mp h2
    cases h2
    have e2 : PyData.bool b = .bool r := Option.some.inj h3
    cases e2
    exact ⟨ω, e, _, _, R, h4, q⟩
end
end MP
set_option linter.all false
set_option maxRecDepth 100000
set_option maxHeartbeats 1000000
/-! Built-ins of one argument, isinstance. -/
namespace MP
open PySem PySem.Spec PyProof.Rows L2 GxR
theorem foldl_minmem : ∀ (r : List Int) (x : Int), r.foldl min x ∈ x :: r ∧ ∀ y ∈ x :: r, r.foldl min x ≤ y
  | [], x => by simp
  | y :: r, x => by
    obtain ⟨h1, h2⟩ := foldl_minmem r (min x y)
    rw [List.foldl_cons]
    generalize List.foldl min (min x y) r = m at h1 h2 ⊢
    have h0 := h2 _ List.mem_cons_self
    refine ⟨?_, fun z hz => ?_⟩
    · rcases List.mem_cons.mp h1 with h | h
      · rcases Int.le_total x y with q | q
        · rw [h, Int.min_eq_left q]; simp
        · rw [h, Int.min_eq_right q]; simp
      · simp [h]
    · rcases List.mem_cons.mp hz with h | h
      · subst h; omega
      · rcases List.mem_cons.mp h with h | h
        · subst h; omega
        · exact h2 z (List.mem_cons_of_mem _ h)
theorem foldl_maxmem : ∀ (r : List Int) (x : Int), r.foldl max x ∈ x :: r ∧ ∀ y ∈ x :: r, y ≤ r.foldl max x
  | [], x => by simp
  | y :: r, x => by
    obtain ⟨h1, h2⟩ := foldl_maxmem r (max x y)
    rw [List.foldl_cons]
    generalize List.foldl max (max x y) r = m at h1 h2 ⊢
    have h0 := h2 _ List.mem_cons_self
    refine ⟨?_, fun z hz => ?_⟩
    · rcases List.mem_cons.mp h1 with h | h
      · rcases Int.le_total x y with q | q
        · rw [h, Int.max_eq_right q]; simp
        · rw [h, Int.max_eq_left q]; simp
      · simp [h]
    · rcases List.mem_cons.mp hz with h | h
      · subst h; omega
      · rcases List.mem_cons.mp h with h | h
        · subst h; omega
        · exact h2 z (List.mem_cons_of_mem _ h)
theorem minI_of {ns : List Int} {m k : Int} (h : minI ns = some k) (h1 : m ∈ ns) (h2 : ∀ y ∈ ns, m ≤ y) : m = k := by
  cases ns with
  | nil => cases h
  | cons x r =>
    cases h
    obtain ⟨a, b⟩ := foldl_minmem r x
    have := h2 _ a
    have := b m h1
    omega
theorem maxI_of {ns : List Int} {m k : Int} (h : maxI ns = some k) (h1 : m ∈ ns) (h2 : ∀ y ∈ ns, y ≤ m) : m = k := by
  cases ns with
  | nil => cases h
  | cons x r =>
    cases h
    obtain ⟨a, b⟩ := foldl_maxmem r x
    have := h2 _ a
    have := b m h1
    omega
theorem reads_ints {h : Heap} : ∀ {us : List Value} {ns : List Int}, Vals (ns.map V.int) us → ∃ as, ReadsAll h us (ns.map PyData.int) as
  | us, [], r => by cases r; exact ⟨_, .nil⟩
  | us, n :: ns, r => by
    cases r with
    | cons r1 r2 =>
      obtain ⟨t, rfl⟩ := r1
      obtain ⟨as, q⟩ := reads_ints r2
      exact ⟨_, .cons (.int n t) q⟩
theorem alike_ints (ns : List Int) : PySem.W.AlikeAll (ns.map PyData.int) := by
  refine ⟨fun x hx y hy => ?_, fun x hx => ?_⟩
  · obtain ⟨i, _, rfl⟩ := List.mem_map.mp hx
    obtain ⟨j, _, rfl⟩ := List.mem_map.mp hy
    rfl
  · obtain ⟨i, _, rfl⟩ := List.mem_map.mp hx
    exact fun z => nomatch z
theorem depth_ints : ∀ ns : List Int, PyData.depthAll (ns.map PyData.int) ≤ 1
  | [] => by simp [PyData.depthAll]
  | n :: ns => by
    have := depth_ints ns
    simp only [List.map_cons, PyData.depthAll, PyData.depth]
    omega
section
variable {X : Cx}
def rMinT (K : PySem.W.Frag) : List V → Hp → VK → Prop := fun vs H Q => ∃ (a : Addr) (ns : List Int) (k : Int), vs = [V.ref a] ∧ SqT K H a (ns.map V.int) ∧ minI ns = some k ∧ Q (.int k) H
def rMaxT (K : PySem.W.Frag) : List V → Hp → VK → Prop := fun vs H Q => ∃ (a : Addr) (ns : List Int) (k : Int), vs = [V.ref a] ∧ SqT K H a (ns.map V.int) ∧ maxI ns = some k ∧ Q (.int k) H
theorem cr_minT (hc : X.calm = true) (hu : X.A.units + 64 < cLine) : CallR X (.builtin "min") (rMinT X.K) := by
  intro pins s σ H vs us Q I r h
  obtain ⟨a, ns, k, rfl, hs, hk, q⟩ := h
  obtain ⟨its, rv, ht, _⟩ := I.tuple hs
  rw [Vals.ref1 r]
  cases ns with
  | nil => cases hk
  | cons n ns =>
    cases hk
    obtain ⟨as, hr⟩ := reads_ints (h := s.heap) rv
    have d := depth_ints (n :: ns)
    refine PySem.W.min_tuple_data (I.ok.hd hc) ht (xs := ns.map PyData.int) (x := .int n) hr (alike_ints (n :: ns)) (by simp only [List.map_cons] at d; omega) fun i v h' tk bs hi hv hk => ?_
    rw [PySem.W.minD_ints] at hv
    cases hv
    exact ⟨.int _, H, I.kept hk, ⟨_, rfl⟩, q⟩
theorem cr_maxT (hc : X.calm = true) (hu : X.A.units + 64 < cLine) : CallR X (.builtin "max") (rMaxT X.K) := by
  intro pins s σ H vs us Q I r h
  obtain ⟨a, ns, k, rfl, hs, hk, q⟩ := h
  obtain ⟨its, rv, ht, _⟩ := I.tuple hs
  rw [Vals.ref1 r]
  cases ns with
  | nil => cases hk
  | cons n ns =>
    cases hk
    obtain ⟨as, hr⟩ := reads_ints (h := s.heap) rv
    have d := depth_ints (n :: ns)
    refine PySem.W.max_tuple_data (I.ok.hd hc) ht (xs := ns.map PyData.int) (x := .int n) hr (alike_ints (n :: ns)) (by simp only [List.map_cons] at d; omega) fun i v h' tk bs hi hv hk => ?_
    rw [PySem.W.maxD_ints] at hv
    cases hv
    exact ⟨.int _, H, I.kept hk, ⟨_, rfl⟩, q⟩
/-- a value's type -/
def TyD (K : PySem.W.Frag) (H : Hp) (x : V) (n : String) : Prop := TyX K H x (.type n) ∨ (n = "list" ∧ ∃ a xs, x = .ref a ∧ SqL K H a xs)
def rIsiD (K : PySem.W.Frag) : List V → Hp → VK → Prop := fun xs H Q => ∃ (x : V) (n T : String) (b : Bool), xs = [x, .ty T] ∧ TyD K H x n ∧ kitB n T = some b ∧ Q (.bl b) H
theorem call_isiD : CallR X (.builtin "isinstance") (rIsiD X.K) := by
  intro pins s σ H xs us Q I r h
  obtain ⟨x, n, T, b, rfl, ty, e, q⟩ := h
  rcases ty with ty | ⟨rfl, a, ys, rfl, hr⟩
  · exact call_isi pins s σ H _ us Q I r ⟨x, .ty T, _, _, b, rfl, .ty T, ty, kit_ty e, q⟩
  · obtain ⟨u1, u2, rfl, r1, r2⟩ := vals2 r
    cases r1
    cases r2
    obtain ⟨its, rv, ⟨o, m, ho, hc, _, _⟩, _⟩ := I.list hr
    exact PySem.W.kia_one PySem.W.kitx_list I.kIn ⟨o, ho, hc⟩ (kit_ty (K := X.K) e) (fun z => nomatch z) fun tk => ⟨.bl b, H, I.tok tk, rfl, q⟩
end
/-! types of data -/
def tyC : D → Fin 7
  | .none => 0 | .bool _ => 1 | .int _ => 2 | .str _ => 3 | .list _ => 4 | .tuple _ => 5 | .dict _ => 6
def tyNm (i : Fin 7) : String := (["NoneType", "bool", "int", "str", "list", "tuple", "dict"] : List String)[i.val]'(by simp)
def tyS : Ty → String
  | .int => "int" | .bool => "bool" | .tuple => "tuple" | .list => "list" | .str => "str"
def isiC (i : Fin 7) : Ty → Bool
  | .int => i == 2 || i == 1
  | .bool => i == 1
  | .tuple => i == 5
  | .list => i == 4
  | .str => i == 3
theorem kit_tab (i : Fin 7) (t : Ty) : kitB (tyNm i) (tyS t) = some (isiC i t) := by
  revert i
  cases t <;> decide +kernel
theorem isiC_of (d : D) (t : Ty) : isiC (tyC d) t = isiD d t := by
  cases d <;> cases t <;> rfl
section
variable {c : Cn} {X : Cx} {C : CallF} {a : Expr} {ma : M}
theorem Rdv.ty {H : Hp} {ω : Om} {v : V} {d : D} (h : Rdv c H ω v d) : TyD c.K H v (tyNm (tyC d)) := by
  obtain ⟨l, b, h, e⟩ := h
  cases b with
  | d x =>
    subst e
    cases x with
    | none => rw [show v = .non from h]; exact .inl (.base .non)
    | bool b => rw [show v = .bl b from h]; exact .inl (.base (.bl b))
    | int i => rw [show v = .int i from h]; exact .inl (.base (.int i))
    | str x => rw [show v = .str x from h]; exact .inl (.base (.str x))
    | list ds => obtain ⟨a, vs, z, r, _⟩ := h; exact .inr ⟨rfl, a, vs, z, MP.SqL.fr r⟩
    | tuple ds =>
      obtain ⟨a, vs, z, r, _⟩ := h
      subst z
      rcases MP.SqT.fr r with r | ⟨o, its, n, e1, e2, _⟩
      · rcases r with r | ⟨o, r⟩
        · exact .inl (.base (.tup r))
        · exact .inl (.fTuple r)
      · exact .inl (.kTuple e1 e2)
    | dict ds => obtain ⟨a, ks, z, r, _⟩ := h; subst z; exact .inl (.base (.dK (fr_le r)))
  | lst xs => subst e; obtain ⟨a, vs, z, r, _⟩ := h; exact .inr ⟨rfl, a, vs, z, .inl (.inl r)⟩
  | dct xs => subst e; obtain ⟨a, ks, z, r, _⟩ := h; subst z; exact .inl (.base (.dK r))
/-- one argument -/
theorem one_tcb {r : List V → Hp → VK → Prop} {f : D → Option O} {g : M} (hg : ∀ e, ev C g e = (evb C ma e).bind fun p => (f p.1).map fun r => (r, p.2))
    (hr : ∀ {ω σ H e Q x d o}, Rel c ω σ H e → Rdv c H ω x d → f d = some o → Kw c σ e o Q ω H → r [x] H Q) {σ : L2.St} {H : Hp} {Q : VK} (h : TO c (ev C g) σ H Q) : tCB r (tCons (TH c ma (evb C ma)) tNil) σ H Q := by
  obtain ⟨ω, e, o, e', R, hf, q⟩ := h
  rw [hg] at hf
  obtain ⟨⟨d, e1⟩, h1, hf⟩ := Option.bind_eq_some_iff.mp hf
  obtain ⟨o', h2, hf⟩ := Option.map_eq_some_iff.mp hf
  cases hf
  exact ⟨ω, e, d, e1, R, h1, fun ω1 H1 v g1 R1 hv => hr R1 (hv.now R1 (evb_now h1)) h2 (Kw.grow q g1)⟩
def isTy : Bi → Bool
  | .tuple => true | .list => true | .int => true | _ => false
def biS : Bi → String
  | .len => "len" | .tuple => "tuple" | .list => "list" | .sum => "sum" | .min => "min" | .max => "max" | .int => "int" | .repr => "repr" | .str => "str"
def rLenD (K : PySem.W.Frag) : List V → Hp → VK → Prop := fun xs H Q => ∃ x n, xs = [x] ∧ LenV K x H n ∧ Q (.int n) H
def rListD' (K : PySem.W.Frag) : List V → Hp → VK → Prop := fun xs H Q => ∃ p ys, xs = [.ref p] ∧ (SqL K H p ys ∨ SqT K H p ys) ∧ ∀ l, H l = none → Q (.ref l) (upd H l (.lst ys))
def rInt1 : List V → Hp → VK → Prop := fun xs H Q => (∃ i, xs = [.int i] ∧ Q (.int i) H) ∨ ∃ k, xs = [.bl k] ∧ Q (.int (if k then 1 else 0)) H
def rStr1 : List V → Hp → VK → Prop := fun xs H Q => ∃ i, xs = [.int i] ∧ i.natAbs.log2 < 1920 ∧ Q (.str (toString i)) H
theorem intsD_len : ∀ {ds : List D} {ns : List Int}, intsD ds = some ns → ns.length = ds.length
  | [], ns, h => by cases h; rfl
  | d :: ds, ns, h => by
    cases d with
    | int i =>
      unfold intsD at h
      obtain ⟨ms, h1, h2⟩ := Option.map_eq_some_iff.mp h
      subst h2
      rw [List.length_cons, List.length_cons, intsD_len h1]
    | _ => cases h
variable {p pos : Pos}
theorem snd_bi {o : Bi} (hK : X.K = c.K) (hc : X.calm = true) (hu : X.A.units + 64 < cLine) (hg : Gl X (Str.ofString (biS o))) (hm : X.mg (Str.ofString (biS o)) = none) (ho : o ≠ .repr) (ha : PE X a (TH c ma (evb C ma))) (hs : starEach [a] X.env = (false, eval a X.env) :: starEach [] X.env) :
    PE X (.Call (.Name (Str.ofString (biS o)) p) [a] [] pos) (TO c (ev C (.bi o ma))) := by
  have hg' : ∀ e, ev C (.bi o ma) e = (evb C ma e).bind fun p => (biD o p.1).map fun r => (r, p.2) := fun e => by rw [ev]
  have pa := pa_cons ha pa_nil hs
  cases o with
  | repr => exact absurd rfl ho
  | len =>
    refine PE.imp (pe_callB (r := rLenD X.K) call_len hg hm boot_len pa (he := hs)) fun σ H Q h => one_tcb hg' (r := rLenD X.K) (fun {ω σ H e Q x d o} R rv hf k => ?_) h
    rw [hK]
    unfold biD at hf
    cases d with
    | list xs =>
      cases hf
      obtain ⟨a, vs, e1, e2, e3⟩ := rv.lst
      subst e1
      exact ⟨_, _, rfl, .inl ⟨vs, e2, rfl⟩, by rw [e3.length]; exact fin_int R k⟩
    | tuple xs =>
      cases hf
      obtain ⟨a, vs, e1, e2, e3⟩ := rv.tup
      subst e1
      exact ⟨_, _, rfl, .inr ⟨vs, e2, rfl⟩, by rw [e3.length]; exact fin_int R k⟩
    | str y =>
      simp only at hf
      split at hf
      · next z =>
        cases hf
        rw [rv.str]
        exact ⟨_, _, rfl, ⟨z, rfl⟩, fin_int R k⟩
      · cases hf
    | _ => cases hf
  | tuple =>
    refine PE.imp (pe_tupleOf hg hm ha (na := hs)) fun σ H Q ⟨ω, e, o, e', R, hf, q⟩ => ?_
    rw [hg'] at hf
    obtain ⟨⟨d, e1⟩, h1, hf⟩ := Option.bind_eq_some_iff.mp hf
    obtain ⟨o', h2, hf⟩ := Option.map_eq_some_iff.mp hf
    cases hf
    refine ⟨ω, e, d, e1, R, h1, fun ω1 H1 v g1 R1 hv => ?_⟩
    have rv := hv.now R1 (evb_now h1)
    have k := Kw.grow q g1
    rw [hK]
    unfold biD at h2
    cases d with
    | list xs =>
      cases h2
      obtain ⟨a, vs, e1, e2, e3⟩ := rv.lst
      exact .inl ⟨a, vs, e1, e2, fin_tup R1 e3 k⟩
    | tuple xs =>
      cases h2
      obtain ⟨a, vs, e4, e2, e3⟩ := rv.tup
      obtain ⟨l', b', hb, e7⟩ := rv
      refine .inr ⟨a, vs, e4, e2, ?_⟩
      rw [← e4]
      cases b' with
      | d q' => cases e7; exact fin_dat R1 hb k
      | lst q' => cases e7
      | dct q' => cases e7
    | _ => cases h2
  | list =>
    refine PE.imp (pe_callTy (r := rListD' X.K) call_list_of hg hm boot_list pa (he := hs)) fun σ H Q h => one_tcb hg' (r := rListD' X.K) (fun {ω σ H e Q x d o} R rv hf k => ?_) h
    rw [hK]
    unfold biD at hf
    cases d with
    | list xs =>
      cases hf
      obtain ⟨a, vs, e1, e2, e3⟩ := rv.lst
      subst e1
      exact ⟨a, vs, rfl, .inl e2, fin_lst R e3 k⟩
    | tuple xs =>
      cases hf
      obtain ⟨a, vs, e1, e2, e3⟩ := rv.tup
      subst e1
      exact ⟨a, vs, rfl, .inr e2, fin_lst R e3 k⟩
    | _ => cases hf
  | sum =>
    refine PE.imp (pe_callB (r := rSum X.K) (cr_sum hc) hg hm PyProof.Rows.boot_sum pa (he := hs)) fun σ H Q h => one_tcb hg' (r := rSum X.K) (fun {ω σ H e Q x d o} R rv hf k => ?_) h
    rw [hK]
    unfold biD at hf
    cases d with
    | list xs =>
      obtain ⟨ns, h1, h2⟩ := Option.map_eq_some_iff.mp hf
      subst h2
      obtain ⟨a, vs, e1, e2, e3⟩ := rv.lst
      subst e1
      have := e3.ints h1
      subst this
      exact ⟨a, ns, rfl, e2, fin_int R k⟩
    | _ => cases hf
  | min =>
    refine PE.imp (pe_callB (r := fun vs H Q => rMin X.K vs H Q ∨ rMinT X.K vs H Q) ((cr_min hc).or (cr_minT hc hu)) hg hm PyProof.Rows.boot_min pa (he := hs)) fun σ H Q h => one_tcb hg' (r := fun vs H Q => rMin X.K vs H Q ∨ rMinT X.K vs H Q) (fun {ω σ H e Q x d o} R rv hf k => ?_) h
    rw [hK]
    unfold biD at hf
    cases d with
    | list xs =>
      obtain ⟨ns, h1, hf⟩ := Option.bind_eq_some_iff.mp hf
      obtain ⟨m, h2, h3⟩ := Option.map_eq_some_iff.mp hf
      subst h3
      obtain ⟨a, vs, e1, e2, e3⟩ := rv.lst
      subst e1
      have := e3.ints h1
      subst this
      refine .inl ⟨a, ns, rfl, e2, ?_, fun j h5 h6 => ?_⟩
      · cases ns with
        | nil => cases h2
        | cons _ _ => simp
      · rw [minI_of h2 h5 h6]
        exact fin_int R k
    | tuple xs =>
      obtain ⟨ns, h1, hf⟩ := Option.bind_eq_some_iff.mp hf
      obtain ⟨m, h2, h3⟩ := Option.map_eq_some_iff.mp hf
      subst h3
      obtain ⟨a, vs, e1, e2, e3⟩ := rv.tup
      subst e1
      have := e3.ints h1
      subst this
      exact .inr ⟨a, ns, m, rfl, e2, h2, fin_int R k⟩
    | _ => cases hf
  | max =>
    refine PE.imp (pe_callB (r := fun vs H Q => rMax X.K vs H Q ∨ rMaxT X.K vs H Q) ((cr_max hc).or (cr_maxT hc hu)) hg hm PyProof.Rows.boot_max pa (he := hs)) fun σ H Q h => one_tcb hg' (r := fun vs H Q => rMax X.K vs H Q ∨ rMaxT X.K vs H Q) (fun {ω σ H e Q x d o} R rv hf k => ?_) h
    rw [hK]
    unfold biD at hf
    cases d with
    | list xs =>
      obtain ⟨ns, h1, hf⟩ := Option.bind_eq_some_iff.mp hf
      obtain ⟨m, h2, h3⟩ := Option.map_eq_some_iff.mp hf
      subst h3
      obtain ⟨a, vs, e1, e2, e3⟩ := rv.lst
      subst e1
      have := e3.ints h1
      subst this
      refine .inl ⟨a, ns, rfl, e2, ?_, fun j h5 h6 => ?_⟩
      · cases ns with
        | nil => cases h2
        | cons _ _ => simp
      · rw [maxI_of h2 h5 h6]
        exact fin_int R k
    | tuple xs =>
      obtain ⟨ns, h1, hf⟩ := Option.bind_eq_some_iff.mp hf
      obtain ⟨m, h2, h3⟩ := Option.map_eq_some_iff.mp hf
      subst h3
      obtain ⟨a, vs, e1, e2, e3⟩ := rv.tup
      subst e1
      have := e3.ints h1
      subst this
      exact .inr ⟨a, ns, m, rfl, e2, h2, fin_int R k⟩
    | _ => cases hf
  | int =>
    refine PE.imp (pe_callTy (r := rInt1) call_int1 hg hm boot_int pa (he := hs)) fun σ H Q h => one_tcb hg' (r := rInt1) (fun {ω σ H e Q x d o} R rv hf k => ?_) h
    unfold biD at hf
    cases d with
    | int i =>
      cases hf
      rw [rv.int]
      exact .inl ⟨i, rfl, fin_int R k⟩
    | _ => cases hf
  | str =>
    refine PE.imp (pe_callTy (r := rStr1) call_str_int hg hm PyProof.Rows.boot_str pa (he := hs)) fun σ H Q h => one_tcb hg' (r := rStr1) (fun {ω σ H e Q x d o} R rv hf k => ?_) h
    unfold biD at hf
    cases d with
    | int i =>
      simp only at hf
      split at hf
      · next z =>
        cases hf
        rw [rv.int]
        exact ⟨i, rfl, z, fin_str R k⟩
      · cases hf
    | _ => cases hf
def rRepr (K : PySem.W.Frag) : List V → Hp → VK → Prop := fun xs H Q => (∃ x d, xs = [x] ∧ Dp K H x d ∧ PyData.showable d = true ∧ PyData.hasDict d = false ∧ PyData.depth d ≤ 60 ∧ (PyData.shown d).length ≤ sizeLine ∧ Q (.str (PyData.shown d)) H) ∨
  ∃ a, xs = [.ref a] ∧ H a = some (.dK []) ∧ Q (.str (PyData.shown (.dict []))) H
theorem cr_repr {X : Cx} (hg : X.A.guards = some []) (hu : X.A.units + 64 < cLine) : CallR X (.builtin "repr") (rRepr X.K) := by
  intro pins s σ H xs us Q I r h
  rcases h with ⟨x, d, rfl, hd, h1, h2, h3, h4, q⟩ | ⟨a, rfl, ha, q⟩
  case inr =>
    obtain ⟨u, rfl, ru⟩ := vals1 r
    obtain ⟨_, hy, vs, rk, o, es, ep, ho, hx, he, _, hp, _⟩ := (show ObjOk X.prog X.w H s.heap a (.dK []) from I.hok a _ ha)
    cases rk
    have he0 : es.toList = [] := by
      generalize es.toList = l at hp
      cases hp
      rfl
    cases ru
    have hr : Reads s.heap (.ref a) (.dict []) ([a] ++ []) := Reads.dict (as := []) (bs := []) ho hx.1 he (by rw [he0]; exact ReadsAll.nil) (by rw [he0]; exact ReadsAll.nil)
    refine repr_of_reads' hr (by decide) (fun _ z => ?_) hg (by show X.A.units + (_ + 1) < cLine; have : PyData.depth (.dict []) ≤ 60 := by decide
                                                                omega) (fun _ _ e => e) (fun h' u tk hk => ⟨.str _, H, I.kept hk, ⟨u, rfl⟩, q⟩) (by decide)
    have z : sysModules = a := by simpa using z
    rw [z] at hy
    simp at hy
  obtain ⟨u, rfl, ru⟩ := vals1 r
  obtain ⟨as, hr⟩ := Dp.reads I d x u hd ru
  have big : ∀ a, u = .ref a → wpAny (model X.prog X.w) X.A (call (.builtin "repr") [u]) (EP X pins σ Q) X.xe s := fun a e => by
    subst e
    exact repr_of_reads' hr h1 (PyData.noDict_hsm h2) hg (by omega) (fun _ _ e => e) (fun h' u tk hk => ⟨.str (PyData.shown d), H, I.kept hk, ⟨u, rfl⟩, q⟩) h4
  cases hd with
  | non =>
    cases ru
    exact PySem.P.repr_of_none ⟨.str _, H, I.tok _, ⟨_, rfl⟩, q⟩
  | bl b =>
    cases ru
    exact PySem.P.repr_of_bool ⟨.str _, H, I.tok _, ⟨_, rfl⟩, q⟩
  | int i =>
    obtain ⟨t, rfl⟩ := ru
    exact PySem.P.repr_of_int (of_decide_eq_true h1) ⟨.str _, H, I.tok _, ⟨_, rfl⟩, q⟩
  | str y =>
    obtain ⟨t, rfl⟩ := ru
    exact PySem.P.repr_of_str ⟨.str _, H, I.tok _, ⟨_, rfl⟩, q⟩ h4
  | lst _ _ => exact big _ ru
  | tup _ _ => exact big _ ru
theorem snd_repr (hK : X.K = c.K) (hu : X.A.units + 64 < cLine) (hgd : X.A.guards = some []) (hg : Gl X (Str.ofString (biS .repr))) (hm : X.mg (Str.ofString (biS .repr)) = none) (ha : PE X a (TH c ma (evb C ma))) (hs : starEach [a] X.env = (false, eval a X.env) :: starEach [] X.env) :
    PE X (.Call (.Name (Str.ofString (biS .repr)) p) [a] [] pos) (TO c (ev C (.bi .repr ma))) := by
  have hg' : ∀ e, ev C (.bi .repr ma) e = (evb C ma e).bind fun p => (biD .repr p.1).map fun r => (r, p.2) := fun e => by rw [ev]
  refine PE.imp (pe_callB (r := rRepr X.K) (cr_repr hgd hu) hg hm PyProof.Rows.boot_repr (pa_cons ha pa_nil hs) (he := hs)) fun σ H Q h => one_tcb hg' (r := rRepr X.K) (fun {ω σ H e Q x d o} R rv hf k => ?_) h
  rw [hK]
  by_cases hdd : d = .dict []
  · subst hdd
    have hf : some (dat (.str (PyData.shown (.dict [])))) = some o := hf
    cases hf
    obtain ⟨a, hx, ha⟩ : ∃ a, x = .ref a ∧ H a = some (.dK []) := by
      obtain ⟨l, b, h, e⟩ := rv
      cases b with
      | d y =>
        have e : y = .dict [] := e
        subst e
        obtain ⟨a, ks, z, r, hk⟩ := h
        cases (show ks = [] from hk)
        exact ⟨a, z, fr_le r⟩
      | lst xs => cases e
      | dct kvs =>
        have e : PyData.dict kvs = .dict [] := e
        injection e with e
        subst e
        obtain ⟨a, ks, z, r, _, hk⟩ := h
        cases (show ks = [] from hk)
        exact ⟨a, z, r⟩
    exact .inr ⟨a, by rw [hx], ha, fin_str R k⟩
  have hf : (if d.showable = true ∧ d.hasDict = false ∧ SeqAt.shaped d = true ∧ d.depth ≤ 60 ∧ d.shown.length ≤ sizeLine then some (dat (.str d.shown)) else none) = some o := by
    cases d with
    | dict kvs => cases kvs with
      | nil => exact absurd rfl hdd
      | cons _ _ => exact hf
    | _ => exact hf
  split at hf
  · next z =>
    cases hf
    exact .inl ⟨x, d, rfl, rv.dp z.2.2.1, z.1, z.2.1, z.2.2.2.1, z.2.2.2.2, fin_str R k⟩
  · cases hf
theorem snd_isi {t : Ty} {pt : Pos} (hK : X.K = c.K) (hg : Gl X "isinstance") (hm : X.mg "isinstance" = none) (hgt : Gl X (Str.ofString (tyS t))) (hmt : X.mg (Str.ofString (tyS t)) = none) (ha : PE X a (TH c ma (evb C ma)))
    (hs : starEach [a, .Name (Str.ofString (tyS t)) pt] X.env = (false, eval a X.env) :: starEach [.Name (Str.ofString (tyS t)) pt] X.env) : PE X (.Call (.Name "isinstance" p) [a, .Name (Str.ofString (tyS t)) pt] [] pos) (TO c (ev C (.isi t ma))) := by
  have hb : PE X (.Name (Str.ofString (tyS t)) pt) (tC (.ty (tyS t))) := by
    cases t
    all_goals exact pe_bltn (u := .type _) hgt hmt (by decide +kernel) rfl (by decide) (by decide)
  refine PE.imp (pe_callB (r := rIsiD X.K) call_isiD hg hm PyProof.Rows.boot_isinstance (pa_cons ha (pa_cons hb pa_nil (hs := by rfl)) hs) (he := hs)) fun σ H Q ⟨ω, e, o, e', R, hf, q⟩ => ?_
  unfold ev at hf
  obtain ⟨⟨d, e1⟩, h1, hf⟩ := Option.map_eq_some_iff.mp hf
  cases hf
  refine ⟨ω, e, d, _, R, h1, fun ω1 H1 v g1 R1 hv => ?_⟩
  have rv := hv.now R1 (evb_now h1)
  exact ⟨v, _, _, _, rfl, by rw [hK]; exact rv.ty, by rw [kit_tab, isiC_of], fin_bl R1 (Kw.grow q g1)⟩
end
end MP
set_option linter.all false
set_option maxRecDepth 100000
set_option maxHeartbeats 1000000
/-! Calls: arguments handed over, and back. -/
namespace MP
open PySem PySem.Spec PyProof.Rows L2 GxR

theorem RepB.map {c : Cn} {H H' : Hp} {ω ω' : Om} {l l' : Lb} {v : V} {b : B} (h : RepB c H ω l v b) (u : Up (fr H ω) (fr H' ω')) (k : ∀ a o, H a = some o → ω a = some l → H' a = some o ∧ ω' a = some l') : RepB c H' ω' l' v b := by
  cases b with
  | d x => exact Fz.up u _ _ h
  | lst ds =>
    obtain ⟨a, vs, e1, e2, e3, e4⟩ := h
    obtain ⟨k1, k2⟩ := k a _ e2 e3
    exact ⟨a, vs, e1, k1, k2, FzL.up u _ _ e4⟩
  | dct ds =>
    obtain ⟨a, vs, e1, e2, e3, e4⟩ := h
    obtain ⟨k1, k2⟩ := k a _ e2 e3
    exact ⟨a, vs, e1, k1, k2, FzK.up u _ _ e4⟩
theorem RepO.map {c : Cn} {H H' : Hp} {ω ω' : Om} {w w' : Ow} {v : V} {o : O} (h : RepO c H ω w v o) (u : Up (fr H ω) (fr H' ω')) (k : ∀ a o f, H a = some o → ω a = some (w, f) → H' a = some o ∧ ω' a = some (w', f)) : RepO c H' ω' w' v o := by
  cases o with
  | b x => exact RepB.map h u fun a o e1 e2 => k a o none e1 e2
  | ins C fs =>
    obtain ⟨a, dx, vs, e1, e2, e3, e4, e5⟩ := h
    obtain ⟨k1, k2⟩ := k a _ none e2 e3
    refine ⟨a, dx, vs, e1, k1, k2, e4, fun f => ?_⟩
    have q := e5 f
    split at q
    · next x hx =>
      obtain ⟨u', h1, h2⟩ := q
      exact ⟨u', h1, h2.map u fun a o e1 e2 => k a o (some f) e1 e2⟩
    · exact q

/-- a def's promise -/
def spOf (c : Cn) (f : List O → Option (List (Option O) × O)) : Sp := fun vs H Q _ => ∃ ω os fs r, Rel c ω (vs.map some) H (os.map some) ∧ f os = some (fs, r) ∧
  ∀ ω' H' v, Grow H ω H' ω' → Rel c ω' (vs.map some) H' fs → RepO c H' ω' .tmp v r → Q v H'
/-- the arguments as they stand -/
structure Args' (c : Cn) (σ : L2.St) (H : Hp) (ω : Om) (e : Env') (os : List O) (is : List (Option Nat)) (vs : List V) : Prop where
  l1 : is.length = os.length
  l2 : vs.length = os.length
  dat : ∀ (j : Nat) o v, is[j]? = some none → os[j]? = some o → vs[j]? = some v → ∃ d, o = MP.dat d ∧ Fz c.K (fr H ω) d v
  bor : ∀ (j i : Nat) o v, is[j]? = some (some i) → os[j]? = some o → vs[j]? = some v → σ[i]? = some (some v) ∧ e[i]? = some (some o)
def TAg (c : Cn) (f : Sv (List O × List (Option Nat))) : TA := fun σ H Q => ∃ ω e r e', Rel c ω σ H e ∧ f e = some (r, e') ∧ ∀ ω' H' vs, Grow H ω H' ω' → Rel c ω' σ H' e' → Args' c σ H' ω' e' r.1 r.2 vs → Q vs H'
/-- where a slot is handed over to -/
def posIn : List (Option Nat) → Nat → Option Nat
  | [], _ => none
  | x :: r, i => if x = some i then some 0 else (posIn r i).map (· + 1)
theorem posIn_some : ∀ {is : List (Option Nat)} {i j : Nat}, posIn is i = some j → is[j]? = some (some i)
  | x :: r, i, j, h => by
    unfold posIn at h
    split at h
    · next z => cases h; rw [z]; rfl
    · obtain ⟨k, h1, h2⟩ := Option.map_eq_some_iff.mp h
      subst h2
      simpa using posIn_some h1
theorem posIn_none : ∀ {is : List (Option Nat)} {i j : Nat}, posIn is i = none → is[j]? ≠ some (some i)
  | [], i, j, h => by simp
  | x :: r, i, j, h => by
    unfold posIn at h
    split at h
    · cases h
    · next z =>
      have h1 : posIn r i = none := by
        cases q : posIn r i with
        | none => rfl
        | some k => rw [q] at h; cases h
      cases j with
      | zero => simpa using z
      | succ j => simpa using posIn_none (j := j) h1
theorem posIn_of : ∀ {is : List (Option Nat)} {i j : Nat}, (is.filterMap id).Nodup → is[j]? = some (some i) → posIn is i = some j
  | x :: r, i, 0, nd, h => by
    simp at h
    subst h
    unfold posIn
    rw [if_pos rfl]
  | x :: r, i, j + 1, nd, h => by
    have h : r[j]? = some (some i) := by simpa using h
    have hm : i ∈ r.filterMap id := List.mem_filterMap.mpr ⟨some i, List.mem_of_getElem? h, rfl⟩
    cases x with
    | none =>
      have nd : (r.filterMap id).Nodup := by simpa using nd
      unfold posIn
      rw [if_neg (by simp), posIn_of nd h]
      rfl
    | some i0 =>
      have nd : (i0 :: r.filterMap id).Nodup := by simpa using nd
      have ne : i0 ≠ i := fun z => (List.nodup_cons.mp nd).1 (by rw [z]; exact hm)
      unfold posIn
      rw [if_neg (by simpa using ne), posIn_of (List.nodup_cons.mp nd).2 h]
      rfl
/-- the callee's owners -/
def inT (is : List (Option Nat)) : Lb → Option Lb := fun l => match l.1 with
  | .sl i => match posIn is i with
    | some j => some (.sl j, l.2)
    | none => some (.fly 0, l.2)
  | _ => some (.fly 0, l.2)
def outT (is : List (Option Nat)) : Lb → Option Lb := fun l => match l.1 with
  | .sl j => match is[j]? with
    | some (some i) => some (.sl i, l.2)
    | _ => none
  | .tmp => some (.tmp, l.2)
  | .fly _ => none
/-- not handed over -/
def stays (is : List (Option Nat)) (l : Lb) : Bool := match l.1 with
  | .sl i => (posIn is i).isNone
  | _ => true
def outO (is : List (Option Nat)) (ω ωc : Om) : Om := fun a => match ω a with
  | some l => if stays is l = true then some l else (ωc a).bind (outT is)
  | none => (ωc a).bind (outT is)
theorem inT_stays {is : List (Option Nat)} {l : Lb} (h : stays is l = true) : inT is l = some (.fly 0, l.2) := by
  obtain ⟨w, f⟩ := l
  cases w with
  | sl i =>
    unfold stays at h
    unfold inT
    simp only at h ⊢
    cases q : posIn is i with
    | none => rfl
    | some j => rw [q] at h; cases h
  | tmp => rfl
  | fly j => rfl
theorem inT_some (is : List (Option Nat)) (l : Lb) : ∃ l', inT is l = some l' := by
  obtain ⟨w, f⟩ := l
  unfold inT
  cases w with
  | sl i =>
    simp only
    cases posIn is i with
    | none => exact ⟨_, rfl⟩
    | some j => exact ⟨_, rfl⟩
  | tmp => exact ⟨_, rfl⟩
  | fly j => exact ⟨_, rfl⟩
theorem putBack_some : ∀ {is : List (Option Nat)} {fs : List (Option O)} {e e2 : Env'}, putBack is fs e = some e2 → e2.length = e.length ∧ ∀ (i : Nat) o, e2[i]? = some (some o) → ((∀ j : Nat, is[j]? ≠ some (some i)) ∧ e[i]? = some (some o)) ∨ ∃ j : Nat, is[j]? = some (some i) ∧ fs[j]? = some (some o)
  | [], fs, e, e2, h => by
    unfold putBack at h
    cases h
    exact ⟨rfl, fun i o q => .inl ⟨fun j => by simp, q⟩⟩
  | none :: r, [], e, e2, h => by unfold putBack at h; cases h
  | none :: r, f :: fs, e, e2, h => by
    unfold putBack at h
    obtain ⟨h1, h2⟩ := putBack_some h
    refine ⟨h1, fun i o q => ?_⟩
    rcases h2 i o q with ⟨h3, h4⟩ | ⟨j, h3, h4⟩
    · refine .inl ⟨fun j => ?_, h4⟩
      cases j with
      | zero => simp
      | succ j => simpa using h3 j
    · exact .inr ⟨j + 1, by simpa using h3, by simpa using h4⟩
  | some i0 :: r, [], e, e2, h => by unfold putBack at h; cases h
  | some i0 :: r, none :: fs, e, e2, h => by unfold putBack at h; cases h
  | some i0 :: r, some o0 :: fs, e, e2, h => by
    unfold putBack at h
    obtain ⟨h1, h2⟩ := putBack_some h
    refine ⟨h1.trans (by unfold putO; rw [List.length_set]), fun i o q => ?_⟩
    rcases h2 i o q with ⟨h3, h4⟩ | ⟨j, h3, h4⟩
    · by_cases z : i = i0
      · subst z
        unfold putO at h4
        rw [List.getElem?_set] at h4
        split at h4
        · split at h4
          · cases h4
            exact .inr ⟨0, rfl, rfl⟩
          · cases h4
        · exact absurd rfl ‹_›
      · unfold putO at h4
        rw [List.getElem?_set_ne (Ne.symm z)] at h4
        refine .inl ⟨fun j => ?_, h4⟩
        cases j with
        | zero => simpa using Ne.symm z
        | succ j => simpa using h3 j
    · exact .inr ⟨j + 1, by simpa using h3, by simpa using h4⟩
section
variable {c : Cn} {σ : L2.St} {H : Hp} {ω : Om} {e : Env'} {os : List O} {is : List (Option Nat)} {vs : List V}
theorem in_up : Up (fr H ω) (fr H (rl ω (inT is))) := rl_up
theorem rel_in (R : Rel c ω σ H e) (A : Args' c σ H ω e os is vs) (nd : (is.filterMap id).Nodup) : Rel c (rl ω (inT is)) (vs.map some) H (os.map some) := by
  refine ⟨by rw [List.length_map, List.length_map, A.l2], fun j o h => ?_, fun P hP => ⟨(R.tab P hP).1, rl_none (R.tab P hP).2⟩, fun a l h => ?_⟩
  · have ho : os[j]? = some o := by
      rw [List.getElem?_map] at h
      cases q : os[j]? with
      | none => rw [q] at h; cases h
      | some o' => rw [q] at h; cases h; rfl
    have hj : j < os.length := (List.getElem?_eq_some_iff.mp ho).1
    have hv : vs[j]? = some (vs[j]'(by rw [A.l2]; exact hj)) := List.getElem?_eq_getElem _
    have hi : is[j]? = some (is[j]'(by rw [A.l1]; exact hj)) := List.getElem?_eq_getElem _
    generalize vs[j]'(by rw [A.l2]; exact hj) = v at hv
    generalize is[j]'(by rw [A.l1]; exact hj) = x at hi
    refine ⟨v, by rw [List.getElem?_map, hv]; rfl, ?_⟩
    cases x with
    | none =>
      obtain ⟨d, rfl, h2⟩ := A.dat j o v hi ho hv
      exact Fz.up rl_up _ _ h2
    | some i =>
      obtain ⟨h1, h2⟩ := A.bor j i o v hi ho hv
      obtain ⟨u, h3, h4⟩ := R.slot i o h2
      rw [h1] at h3
      cases h3
      refine h4.rl fun f => ?_
      show (match posIn is i with
        | some j => some (Ow.sl j, f)
        | none => some (Ow.fly 0, f)) = _
      rw [posIn_of nd hi]
  · unfold rl at h
    cases q : ω a with
    | none => rw [q] at h; cases h
    | some l' => exact R.own a l' q
theorem rel_out {H2 : Hp} {ωc : Om} {fs : List (Option O)} {e2 : Env'} {v : V} {r : O} (R : Rel c ω σ H e) (A : Args' c σ H ω e os is vs) (nd : (is.filterMap id).Nodup)
    (G : Grow H (rl ω (inT is)) H2 ωc) (R2 : Rel c ωc (vs.map some) H2 fs) (rep : RepO c H2 ωc .tmp v r) (hp : putBack is fs e = some e2) :
    Grow H ω H2 (outO is ω ωc) ∧ Rel c (outO is ω ωc) σ H2 e2 ∧ RepO c H2 (outO is ω ωc) .tmp v r ∧ Up (fr H2 ωc) (fr H2 (outO is ω ωc)) := by
  -- what stays with the caller
  have st : ∀ a l, ω a = some l → stays is l = true → ∃ o, H a = some o ∧ H2 a = some o ∧ ωc a = some (.fly 0, l.2) ∧ noTbl o := fun a l h1 h2 => by
    obtain ⟨o, h3, h4⟩ := R.own a l h1
    have e1 : rl ω (inT is) a = some (.fly 0, l.2) := (rl_some h1).trans (inT_stays h2)
    have p : Prot (rl ω (inT is) a) := by rw [e1]; trivial
    have nt : noTbl o := fun ps z => by rw [z] at h4; exact h4
    exact ⟨o, h3, G.keep a o h3 p nt, (G.lab a o h3 p).trans e1, nt⟩
  have out : ∀ a l, ωc a = some l → l.1 ≠ .fly 0 → outO is ω ωc a = outT is l := fun a l h1 h2 => by
    unfold outO
    cases q : ω a with
    | none => simp only [h1, Option.bind_some]
    | some l' =>
      by_cases z : stays is l' = true
      · obtain ⟨o, _, _, h3, _⟩ := st a l' q z
        rw [h1] at h3
        cases h3
        exact absurd rfl h2
      · simp only [if_neg z, h1, Option.bind_some]
  have outN : ∀ a, ωc a = none → outO is ω ωc a = none := fun a h1 => by
    unfold outO
    cases q : ω a with
    | none => simp only [h1, Option.bind_none]
    | some l' =>
      by_cases z : stays is l' = true
      · obtain ⟨o, _, _, h3, _⟩ := st a l' q z
        rw [h1] at h3; cases h3
      · simp only [if_neg z, h1, Option.bind_none]
  have up2 : Up (fr H2 ωc) (fr H2 (outO is ω ωc)) := fun a o h n => by
    obtain ⟨h1, h2⟩ := fr_some.mp h
    exact fr_some.mpr ⟨outN a h1, h2⟩
  have G' : Grow H ω H2 (outO is ω ωc) := by
    refine ⟨fun a o h p n => ?_, G.tbl, fun a o h p => ?_⟩
    · cases q : ω a with
      | none => exact G.keep a o h (by rw [rl_none q]; trivial) n
      | some l =>
        rw [q] at p
        obtain ⟨w, f⟩ := l
        cases w with
        | fly j =>
          obtain ⟨o', h1, h2, _⟩ := st a _ q rfl
          rw [h] at h1; cases h1
          exact h2
        | sl i => exact p.elim
        | tmp => exact p.elim
    · cases q : ω a with
      | none =>
        have e1 : ωc a = none := (G.lab a o h (by rw [rl_none q]; trivial)).trans (rl_none q)
        exact outN a e1
      | some l =>
        rw [q] at p
        obtain ⟨w, f⟩ := l
        cases w with
        | fly j =>
          unfold outO
          rw [q]
          rfl
        | sl i => exact p.elim
        | tmp => exact p.elim
  obtain ⟨hl, hs⟩ := putBack_some hp
  refine ⟨G', ⟨R.len.trans hl.symm, fun i o h => ?_, fun P hP => ⟨(R2.tab P hP).1, outN P (R2.tab P hP).2⟩, fun a l h => ?_⟩, ?_⟩
  · rcases hs i o h with ⟨h1, h2⟩ | ⟨j, h1, h2⟩
    · obtain ⟨u, h3, h4⟩ := R.slot i o h2
      refine ⟨u, h3, h4.map G'.up fun a o' f e1 e2 => ?_⟩
      have z : stays is (Ow.sl i, f) = true := by
        unfold stays
        simp only
        cases q : posIn is i with
        | none => rfl
        | some j => exact absurd (posIn_some q) (h1 j)
      obtain ⟨o2, h5, h6, _⟩ := st a _ e2 z
      rw [e1] at h5; cases h5
      refine ⟨h6, ?_⟩
      unfold outO
      rw [e2]
      simp only [z, if_true]
    · obtain ⟨u, h3, h4⟩ := R2.slot j o h2
      have hv : vs[j]? = some u := by
        rw [List.getElem?_map] at h3
        cases q : vs[j]? with
        | none => rw [q] at h3; cases h3
        | some u' => rw [q] at h3; cases h3; rfl
      have hj : j < os.length := by
        have := (List.getElem?_eq_some_iff.mp hv).1
        rw [A.l2] at this
        exact this
      obtain ⟨h5, h6⟩ := A.bor j i _ u h1 (List.getElem?_eq_getElem hj) hv
      refine ⟨u, h5, h4.map up2 fun a o' f e1 e2 => ⟨e1, ?_⟩⟩
      rw [out a _ e2 (by simp)]
      unfold outT
      simp only [h1]
  · unfold outO at h
    cases q : ω a with
    | none =>
      rw [q] at h
      cases q2 : ωc a with
      | none => rw [q2] at h; cases h
      | some l2 => exact R2.own a l2 q2
    | some l' =>
      rw [q] at h
      by_cases z : stays is l' = true
      · obtain ⟨o, h1, h2, _, _⟩ := st a l' q z
        obtain ⟨o', h3, h4⟩ := R.own a l' q
        rw [h1] at h3; cases h3
        exact ⟨o, h2, h4⟩
      · simp only [if_neg z] at h
        cases q2 : ωc a with
        | none => rw [q2] at h; cases h
        | some l2 => exact R2.own a l2 q2
  · exact ⟨rep.map up2 fun a o f e1 e2 => ⟨e1, by rw [out a _ e2 (by simp)]; rfl⟩, up2⟩
end
section
variable {c : Cn} {X : Cx} {C : CallF} {a : Expr} {es : List Expr} {ma : M} {ms : Ms}
theorem snd_anil : PA X [] (TAg c (evas C .nil)) := PA.imp pa_nil fun σ H Q ⟨ω, e, r, e', R, hf, q⟩ => by
  unfold evas at hf
  cases hf
  exact q ω H [] Grow.refl R ⟨rfl, rfl, fun j o v h => by simp at h, fun j i o v h => by simp at h⟩
theorem snd_acons (hb : ∀ i, ma ≠ .bor i) (ha : PE X a (TD c fun e => lift (ev C ma e))) (hr : PA X es (TAg c (evas C ms))) (hs : starEach (a :: es) X.env = (false, eval a X.env) :: starEach es X.env) : PA X (a :: es) (TAg c (evas C (.cons ma ms))) :=
  PA.imp (pa_cons ha hr hs) fun σ H Q ⟨ω, e, r, e', R, hf, q⟩ => by
    have hf : ((lift (ev C ma e)).bind fun p => (evas C ms p.2).map fun q => ((dat p.1 :: q.1.1, none :: q.1.2), q.2)) = some (r, e') := by
      cases ma with
      | bor i => exact absurd rfl (hb i)
      | _ => unfold evas at hf; exact hf
    obtain ⟨⟨d, e1⟩, h1, hf⟩ := Option.bind_eq_some_iff.mp hf
    obtain ⟨⟨⟨os, is⟩, e2⟩, h2, hf⟩ := Option.map_eq_some_iff.mp hf
    cases hf
    refine ⟨ω, e, d, e1, R, h1, fun ω1 H1 v g1 R1 hv => ⟨ω1, e1, _, e2, R1, h2, fun ω2 H2 vs g2 R2 A => q ω2 H2 _ (g1.trans g2) R2 ?_⟩⟩
    refine ⟨by simp [A.l1], by simp [A.l2], fun j o u h1 h2 h3 => ?_, fun j i o u h1 h2 h3 => ?_⟩
    · cases j with
      | zero =>
        simp at h2 h3
        subst h2; subst h3
        exact ⟨d, rfl, Fz.up g2.up _ _ hv⟩
      | succ j => exact A.dat j o u (by simpa using h1) (by simpa using h2) (by simpa using h3)
    · cases j with
      | zero => simp at h1
      | succ j => exact A.bor j i o u (by simpa using h1) (by simpa using h2) (by simpa using h3)
theorem snd_abor {i : Nat} {x : Str} {pos : Pos} (hN : X.N[i]? = some x) (hv : Vis X.env.scope x) (hd : (x == ("__debug__" : Str)) = false) (hcd : (x == ("__classdict__" : Str)) = false) (hr : PA X es (TAg c (evas C ms))) :
    PA X (.Name x pos :: es) (TAg c (evas C (.cons (.bor i) ms))) :=
  PA.imp (pa_cons (pe_var hN hv hd hcd) hr (by rfl)) fun σ H Q ⟨ω, e, r, e', R, hf, q⟩ => by
    unfold evas at hf
    split at hf
    case isFalse => cases hf
    next hj =>
    have hsl : ∃ v, σ[i]? = some (some v) := by
      cases q : e[i]? with
      | none => rw [q] at hj; cases hj
      | some x =>
        cases x with
        | none => rw [q] at hj; cases hj
        | some o => obtain ⟨v, h, _⟩ := R.slot i o q; exact ⟨v, h⟩
    obtain ⟨v, hv'⟩ := hsl
    obtain ⟨⟨⟨os, is⟩, e2⟩, h2, hf⟩ := Option.bind_eq_some_iff.mp hf
    split at hf
    · next o ho =>
      cases hf
      refine ⟨v, hv', ω, e, _, _, R, h2, fun ω2 H2 vs g2 R2 A => q ω2 H2 _ g2 R2 ?_⟩
      refine ⟨by simp [A.l1], by simp [A.l2], fun j o u h1 h2 h3 => ?_, fun j i' o' u h1 h2 h3 => ?_⟩
      · cases j with
        | zero => simp at h1
        | succ j => exact A.dat j o u (by simpa using h1) (by simpa using h2) (by simpa using h3)
      · cases j with
        | zero =>
          simp at h1 h2 h3
          subst h1 h2 h3
          exact ⟨hv', ho⟩
        | succ j => exact A.bor j i' o' u (by simpa using h1) (by simpa using h2) (by simpa using h3)
    · cases hf

variable {k : Nat} {f : Addr} {fd : FuncData} {ps : List Str} {x : Str} {p pos : Pos} {fi : Nat}
theorem tcall_ok {σ : L2.St} {H : Hp} {Q : VK} (h : TO c (ev C (.call fi ms)) σ H Q) : tCall (spOf c (C fi)) [] E0 (TAg c (evas C ms)) σ H Q := by
  obtain ⟨ω, e, r, e', R, hf, q⟩ := h
  unfold ev at hf
  obtain ⟨⟨⟨os, is⟩, e1⟩, h1, hf⟩ := Option.bind_eq_some_iff.mp hf
  split at hf
  case isFalse => cases hf
  next nd =>
  obtain ⟨⟨fs, r'⟩, h2, hf⟩ := Option.bind_eq_some_iff.mp hf
  obtain ⟨e2, h3, hf⟩ := Option.map_eq_some_iff.mp hf
  cases hf
  refine ⟨ω, e, _, e1, R, h1, fun ω1 H1 vs g1 R1 A => ?_⟩
  show spOf c (C fi) (vs ++ []) H1 Q E0
  rw [List.append_nil]
  refine ⟨_, os, fs, _, rel_in R1 A nd, h2, fun ω2 H2 v g2 R2 rep => ?_⟩
  obtain ⟨G, R3, rep', _⟩ := rel_out R1 A nd g2 R2 rep h3
  exact q _ H2 v (g1.trans G) R3 rep'
theorem snd_call (F : FnOk X.prog X.w X.K X.mg X.base CX0 k f fd ps (spOf c (C fi))) (hr : Room k X.A) (hg : Gl X x) (hm : X.mg x = some (.ref f)) (hk : PySem.W.keepIn X.K (.ref f) = true) (hb : Binds X.K fd ps []) (hdb : (x == ("__debug__" : Str)) = false)
    (ha : PA X (a :: es) (TAg c (evas C ms))) (he : starEach (a :: es) X.env = (false, eval a X.env) :: starEach es X.env) (hpl : (backTo pos (starEach es X.env)).any (·.1) = false) : PE X (.Call (.Name x p) (a :: es) [] pos) (TO c (ev C (.call fi ms))) :=
  PE.imp (pe_call F hr hg hm hk hb .nil pass0 ha hdb he hpl) fun σ H Q h => tcall_ok h
theorem snd_call0 (F : FnOk X.prog X.w X.K X.mg X.base CX0 k f fd ps (spOf c (C fi))) (hr : Room k X.A) (hg : Gl X x) (hm : X.mg x = some (.ref f)) (hk : PySem.W.keepIn X.K (.ref f) = true) (hb : Binds X.K fd ps []) (hdb : (x == ("__debug__" : Str)) = false) :
    PE X (.Call (.Name x p) [] [] pos) (TO c (ev C (.call fi .nil))) :=
  PE.imp (pe_call0 F hr hg hm hk hb .nil pass0 hdb) fun σ H Q h => by
    have h := tcall_ok h
    obtain ⟨ω, e, r, e', R, hf, q⟩ := h
    unfold evas at hf
    cases hf
    exact q ω H [] Grow.refl R ⟨rfl, rfl, fun j o v h => by simp at h, fun j i o v h => by simp at h⟩
end
end MP
set_option linter.all false
set_option maxRecDepth 100000
set_option maxHeartbeats 1000000
/-! zip of a list and a tuple. -/
namespace MZ
open PySem PySem.Spec PyProof.Rows L2 RZ
section
variable {prog : Program} {w : World} {A : Around} {E : Value → Shared → Prop} {s : Shared} {z TI TO i1 i2 l1 l2 : Addr} {k : Nat} {xs ys : Array Value} {x y a b : Value}
/-- a zip over a list's iterator and a tuple's, at its k-th turn -/
structure St (h : Heap) (z TI TO i1 i2 l1 l2 : Addr) (k : Nat) : Prop where
  z : IsZip h z TI TO .none
  ti : IsPair h TI (.ref i1) (.ref i2)
  to : ∃ a b, IsPair h TO a b
  i1 : h.IsListIter i1 l1 k
  i2 : h.IsTupleIter i2 l2 k
theorem next_item (D : ZipApart z TI TO i1 i2 l1 l2) (S : St s.heap z TI TO i1 i2 l1 l2 k) (p : s.heap.IsList l1 xs) (q : s.heap.IsTuple l2 ys) (hx : xs[k]? = some x) (hy : ys[k]? = some y) {Q : Value → Shared → Prop}
    (hQ : ∀ h', IsZip h' z TI TO (rawInt s.heap.objs.size) → IsPair h' TO x y → h'.IsListIter i1 l1 (k + 1) → h'.IsTupleIter i2 l2 (k + 1) → IsPair h' s.heap.objs.size x y →
      (∀ c o, c ≠ z → c ≠ TO → c ≠ i1 → c ≠ i2 → s.heap.get? c = some o → h'.get? c = some o) → Q (.ref s.heap.objs.size) { s with heap := h' }) :
    wpAny (model prog w) A (Builtin.«zip.__next__» ⟨[.ref z], []⟩) (fun fin s' => ∃ v, fin = .done (.ret v) ∧ Q v s') E s := by
  obtain ⟨hz, ht, ⟨a, b, hTO⟩, h1, h2⟩ := S
  show wpAny _ _ (field (.ref _) 2 >>= _) _ _ _
  refine wpAny_bind (wpAny_field hz rfl (x := .bool false) rfl ?_); show wpAny _ _ (field (.ref _) 3 >>= _) _ _ _
  refine wpAny_bind (wpAny_field hz rfl (x := .ref _) rfl (wpAny_bind (wpAny_seqItems ht rfl ?_))); show wpAny _ _ (Builtin.SmallTypes.ownedTupleIsFree (.ref _) >>= _) _ _ _
  refine wpAny_bind ?_; unfold Builtin.SmallTypes.ownedTupleIsFree
  refine wpAny_bind (wpAny_field hz rfl (x := .none) rfl (wpAny_pure ?_)); simp only [if_true]
  refine wpAny_bind (wpAny_rule (wpAny_bind (wpAny_field hz rfl (x := .ref TO) rfl (wpAny_bind (wpAny_setField_rec hz (by simp) fun g1 z1 e1 => wpAny_bind ?_)))))
  have z1 : IsZip g1 z TI TO .ellipsis := z1
  have n1 := e1.1
  have e1 := e1.extBut
  simp only [List.zipIdx_cons, List.zipIdx_nil, List.forIn_cons, List.forIn_nil]
  refine wpAny_bind (wpAny_bind (wpAny_onRaise ?_))
  show wpAny _ _ (Builtin.SmallTypes.nextOf (.ref i1) >>= _) _ _ _
  refine wpAny_bind (wpAny_nextOf_list_item (h1.extBut e1 D.i1z) (p.extBut e1 D.l1z) hx fun g2 j1 e2 => wpAny_pure ?_)
  have n2 := e2.1
  have e2 := e2.extBut
  have o2 : IsPair g2 TO a b := e2 _ _ D.TOi1 (e1 _ _ D.TOz hTO)
  refine wpAny_bind (wpAny_seqItems o2 rfl (wpAny_bind (wpAny_updateSeq_pair o2 fun g3 o3 e3 => wpAny_bind (wpAny_letGo (wpAny_pure ?_)))))
  have o3 : IsPair g3 TO x b := o3
  have n3 := e3.1
  have e3 := e3.extBut
  refine wpAny_bind (wpAny_bind (wpAny_onRaise ?_))
  show wpAny _ _ (Builtin.SmallTypes.nextOf (.ref i2) >>= _) _ _ _
  have j2 := ((h2.extBut e1 D.i2z).extBut e2 D.i12.symm).extBut e3 D.TOi2.symm
  refine wpAny_bind (nextOf_tuple_item j2 (((q.extBut e1 D.l2z).extBut e2 D.l2i1).extBut e3 D.l2TO) hy fun g4 j3 e4 => wpAny_pure ?_)
  have n4 := e4.1
  have e4 := e4.extBut
  have o4 : IsPair g4 TO x b := e4 _ _ D.TOi2 o3
  refine wpAny_bind (wpAny_seqItems o4 rfl (wpAny_bind (wpAny_updateSeq_pair o4 fun g5 o5 e5 => wpAny_bind (wpAny_letGo (wpAny_pure (wpAny_pure ?_))))))
  have o5 : IsPair g5 TO x y := o5
  have sz : g5.objs.size = s.heap.objs.size := by rw [e5.1, n4, n3, n2, n1]
  have e5 := e5.extBut
  refine wpAny_bind (wpAny_seqItems o5 rfl (wpAny_bind (wpAny_newTuple ?_)))
  have z5 : IsZip g5 z TI TO .ellipsis := e5 _ _ D.TOz.symm (e4 _ _ D.i2z.symm (e3 _ _ D.TOz.symm (e2 _ _ D.i1z.symm z1)))
  show wpAny _ _ (Builtin.SmallTypes.ownedTupleHandOut (.ref z) (.ref g5.objs.size) >>= _) _ _ _
  refine wpAny_bind ?_
  unfold Builtin.SmallTypes.ownedTupleHandOut
  have z6 : IsZip (g5.push { cls := .type "tuple", data := .seq #[x, y] }) z TI TO .ellipsis := Heap.get?_push_of_some _ z5
  refine wpAny_bind (wpAny_setField_rec z6 (by simp) fun g7 z7 e7 => ?_)
  have z7 : IsZip g7 z TI TO (rawInt g5.objs.size) := z7
  refine wpAny_setField_rec z7 (by simp) fun g8 z8 e8 => wpAny_pure ⟨_, rfl, ?_⟩
  have z8 : IsZip g8 z TI TO (rawInt g5.objs.size) := z8
  have k8 : ∀ c o, c ≠ z → g5.get? c = some o → g8.get? c = some o := fun c o n r => e8.extBut _ _ n (e7.extBut _ _ n (Heap.get?_push_of_some _ r))
  have zl := Nat.ne_of_gt (Heap.lt_size z5)
  have t8 : IsPair g8 g5.objs.size x y := e8.extBut _ _ zl (e7.extBut _ _ zl (Heap.get?_push_size _ rfl))
  show Q (.ref g5.objs.size) _
  rw [sz] at z8 t8 ⊢
  refine hQ g8 z8 (k8 _ _ D.TOz o5) (((j1.extBut e3 D.TOi1.symm).extBut e4 D.i12).extBut e5 D.TOi1.symm |>.at fun o r => k8 _ o D.i1z r) ((j3.extBut e5 D.TOi2.symm).at fun o r => k8 _ o D.i2z r) t8 fun c o n1 n2 n3 n4 r => ?_
  exact k8 c o n1 (e5 _ _ n2 (e4 _ _ n4 (e3 _ _ n2 (e2 _ _ n3 (e1 _ _ n1 r)))))
theorem next_end (hh : A.handled = none) (D : ZipApart z TI TO i1 i2 l1 l2) (S : St s.heap z TI TO i1 i2 l1 l2 k) (p : s.heap.IsList l1 xs) (q : s.heap.IsTuple l2 ys) (hend : xs[k]? = none ∨ ys[k]? = none) {Q : Fin → Shared → Prop}
    (hE : ∀ h' e, (∀ c o, c ≠ z → c ≠ TO → c ≠ i1 → c ≠ i2 → s.heap.get? c = some o → h'.get? c = some o) → (∃ o, h'.get? e = some o ∧ o.cls = .type "StopIteration") → E (.ref e) { s with heap := h' }) :
    wpAny (model prog w) A (Builtin.«zip.__next__» ⟨[.ref z], []⟩) Q E s := by
  obtain ⟨hz, ht, ⟨a, b, hTO⟩, h1, h2⟩ := S
  show wpAny _ _ (field (.ref _) 2 >>= _) _ _ _
  refine wpAny_bind (wpAny_field hz rfl (x := .bool false) rfl ?_); show wpAny _ _ (field (.ref _) 3 >>= _) _ _ _
  refine wpAny_bind (wpAny_field hz rfl (x := .ref _) rfl (wpAny_bind (wpAny_seqItems ht rfl ?_))); show wpAny _ _ (Builtin.SmallTypes.ownedTupleIsFree (.ref _) >>= _) _ _ _
  refine wpAny_bind ?_; unfold Builtin.SmallTypes.ownedTupleIsFree
  refine wpAny_bind (wpAny_field hz rfl (x := .none) rfl (wpAny_pure ?_)); simp only [if_true]
  refine wpAny_bind (wpAny_rule (wpAny_bind (wpAny_field hz rfl (x := .ref TO) rfl (wpAny_bind (wpAny_setField_rec hz (by simp) fun g1 z1 e1 => wpAny_bind ?_)))))
  have z1 : IsZip g1 z TI TO .ellipsis := z1
  have e1 := e1.extBut
  simp only [List.zipIdx_cons, List.zipIdx_nil, List.forIn_cons, List.forIn_nil]
  refine wpAny_bind (wpAny_bind (wpAny_onRaise ?_))
  show wpAny _ _ (Builtin.SmallTypes.nextOf (.ref i1) >>= _) _ _ _
  have j1 := h1.extBut e1 D.i1z
  have p1 := p.extBut e1 D.l1z
  cases hx : xs[k]? with
  | none =>
    refine wpAny_bind (wpAny_nextOf_list_end hh j1 p1 hx fun g2 e e2 ⟨oe, r1, r2⟩ => ?_)
    have z2 : IsZip g2 z TI TO .ellipsis := e2 _ _ D.i1z.symm z1
    have ne : e ≠ z := fun w => by rw [w, z2] at r1; cases r1; simp at r2
    exact wpAny_setField_rec z2 (by simp) fun g3 _ e3 => hE g3 e (fun c o n1 _ n3 _ r => e3.extBut _ _ n1 (e2 _ _ n3 (e1 _ _ n1 r))) ⟨oe, e3.extBut _ _ ne r1, r2⟩
  | some x =>
    have hy : ys[k]? = none := hend.resolve_left fun w => by rw [hx] at w; cases w
    refine wpAny_bind (wpAny_nextOf_list_item j1 p1 hx fun g2 _ e2 => wpAny_pure ?_)
    have e2 := e2.extBut
    have o2 : IsPair g2 TO a b := e2 _ _ D.TOi1 (e1 _ _ D.TOz hTO)
    refine wpAny_bind (wpAny_seqItems o2 rfl (wpAny_bind (wpAny_updateSeq_pair o2 fun g3 _ e3 => wpAny_bind (wpAny_letGo (wpAny_pure ?_)))))
    have e3 := e3.extBut
    refine wpAny_bind (wpAny_bind (wpAny_onRaise ?_))
    show wpAny _ _ (Builtin.SmallTypes.nextOf (.ref i2) >>= _) _ _ _
    have j2 := ((h2.extBut e1 D.i2z).extBut e2 D.i12.symm).extBut e3 D.TOi2.symm
    refine wpAny_bind (nextOf_tuple_end hh j2 (((q.extBut e1 D.l2z).extBut e2 D.l2i1).extBut e3 D.l2TO) hy fun g4 e e4 ⟨oe, r1, r2⟩ => ?_)
    have z4 : IsZip g4 z TI TO .ellipsis := e4 _ _ D.i2z.symm (e3 _ _ D.TOz.symm (e2 _ _ D.i1z.symm z1))
    have ne : e ≠ z := fun w => by rw [w, z4] at r1; cases r1; simp at r2
    exact wpAny_setField_rec z4 (by simp) fun g5 _ e5 => hE g5 e (fun c o n1 n2 n3 n4 r => e5.extBut _ _ n1 (e4 _ _ n4 (e3 _ _ n2 (e2 _ _ n3 (e1 _ _ n1 r))))) ⟨oe, e5.extBut _ _ ne r1, r2⟩
theorem py_item (D : ZipApart z TI TO i1 i2 l1 l2) (S : St s.heap z TI TO i1 i2 l1 l2 k) (p : s.heap.IsList l1 xs) (q : s.heap.IsTuple l2 ys) (hx : xs[k]? = some x) (hy : ys[k]? = some y) {Q : Option Value → Shared → Prop}
    (hQ : ∀ h', IsZip h' z TI TO (rawInt s.heap.objs.size) → IsPair h' TO x y → h'.IsListIter i1 l1 (k + 1) → h'.IsTupleIter i2 l2 (k + 1) → IsPair h' s.heap.objs.size x y →
      (∀ c o, c ≠ z → c ≠ TO → c ≠ i1 → c ≠ i2 → s.heap.get? c = some o → h'.get? c = some o) → Q (some (.ref s.heap.objs.size)) { s with heap := h' }) : wpAny (model prog w) A (pyNext (.ref z)) Q E s := by
  have t : s.TypeIs (.ref z) "zip" := ⟨_, S.z, rfl⟩
  unfold pyNext
  refine wpAny_bind (wpAny_attempt (wpAny_callSpecial?_slot (name := Str.ofString "__next__") t F.slot_zip_next (wpAny_call_entry F.slot_zip_next t F.entry_zip_next ?_ (F.args_zip_next_1 _))))
  exact next_item D S p q hx hy fun h' b1 b2 b3 b4 b5 b6 => wpAny_pure (hQ h' b1 b2 b3 b4 b5 b6)
theorem py_end (hh : A.handled = none) (D : ZipApart z TI TO i1 i2 l1 l2) (S : St s.heap z TI TO i1 i2 l1 l2 k) (p : s.heap.IsList l1 xs) (q : s.heap.IsTuple l2 ys) (hend : xs[k]? = none ∨ ys[k]? = none) {Q : Option Value → Shared → Prop}
    (hQ : ∀ h', (∀ c o, c ≠ z → c ≠ TO → c ≠ i1 → c ≠ i2 → s.heap.get? c = some o → h'.get? c = some o) → Q none { s with heap := h' }) : wpAny (model prog w) A (pyNext (.ref z)) Q E s := by
  have t : s.TypeIs (.ref z) "zip" := ⟨_, S.z, rfl⟩
  unfold pyNext
  refine wpAny_bind (wpAny_attempt (wpAny_callSpecial?_slot (name := Str.ofString "__next__") t F.slot_zip_next (wpAny_call_entry F.slot_zip_next t F.entry_zip_next ?_ (F.args_zip_next_1 _))))
  refine next_end (A := A.in1) (show A.in1.handled = none from hh) D S p q hend fun h' e hk he => ?_
  obtain ⟨o, r1, r2⟩ := he
  refine wpAny_bind (wpAny_isInstance (T := "StopIteration") (b := true) ⟨o, r1, r2⟩ isSubtype_stop ?_)
  exact wpAny_pure (hQ _ hk)
end
abbrev H1 (h : Heap) (l1 : Addr) : Heap := h.push { cls := .type "list_iterator", data := .fields #[.ref l1, .int 0 0] }
abbrev H2 (h : Heap) (l1 l2 : Addr) : Heap := (H1 h l1).push { cls := .type "tuple_iterator", data := .fields #[.ref l2, .int 0 0] }
abbrev H3 (h : Heap) (l1 l2 : Addr) : Heap := (H2 h l1 l2).push { cls := .type "tuple", data := .seq #[.ref h.objs.size, .ref (H1 h l1).objs.size] }
abbrev H4 (h : Heap) (l1 l2 : Addr) : Heap := (H3 h l1 l2).push { cls := .type "tuple", data := .seq #[.none, .none] }
abbrev H5 (h : Heap) (l1 l2 : Addr) : Heap := (H4 h l1 l2).push { cls := .type "zip", data := .fields #[.none, .bool false, .bool false, .ref (H2 h l1 l2).objs.size, .ref (H3 h l1 l2).objs.size] }
theorem meets_new (l1 l2 : Addr) (xs ys : Array Value) : Meets (Builtin.«zip.__new__» ⟨[.type "zip", .ref l1, .ref l2], []⟩) (fun _ R s => s.heap.IsList l1 xs ∧ s.heap.IsTuple l2 ys ∧ R (.ok (.ret (.ref (H4 s.heap l1 l2).objs.size))) { s with heap := H5 s.heap l1 l2 }) :=
  .of_wp fun prog w A R s h => by
    obtain ⟨hp, g, d, tk, os⟩ := s
    obtain ⟨q1, q2, h⟩ := h
    have hsub := sub_zip
    have L1 : Heap.IsList (Shared.heap ⟨hp, g, d, tk, os⟩) l1 xs := q1
    have L2 : Heap.IsTuple (Shared.heap ⟨H1 hp l1, g, d, tk, os⟩) l2 ys := Heap.IsTuple.push q2 _
    wp_walk using wpAny_pyIter_list L1, wpAny_pyIter_tuple L2
    exact ⟨_, rfl, h⟩
section
variable {prog : Program} {w : World} {A : Around} {E : Value → Shared → Prop} {s : Shared} {l1 l2 : Addr} {xs ys : Array Value}
theorem call_new {Q : Value → Shared → Prop} (p : s.heap.IsList l1 xs) (q : s.heap.IsTuple l2 ys)
    (h : ∀ h', St h' (s.heap.objs.size + 4) (s.heap.objs.size + 2) (s.heap.objs.size + 3) s.heap.objs.size (s.heap.objs.size + 1) l1 l2 0 → (∀ c o, s.heap.get? c = some o → h'.get? c = some o) → Q (.ref (s.heap.objs.size + 4)) { s with heap := h' }) :
    wpAny (model prog w) A (call (.type "zip") [.ref l1, .ref l2]) Q E s := by
  refine callType_new F.called_zip (by decide) (F.typeCall_zip_2 _ _) (F.newCall_zip_2 _ _) (fun o => F.args_object_init_3 o _ _) F.entry_zip_new (meets_new l1 l2 xs ys) ⟨p, q, ?_⟩
  have up : ∀ {h : Heap} {o : Obj} {c : Addr} {u : Obj}, h.get? c = some u → (h.push o).get? c = some u := fun r => Heap.get?_push_of_some _ r
  have r1 : (H1 s.heap l1).get? s.heap.objs.size = some _ := Heap.get?_push_size _ rfl
  have r2 : (H2 s.heap l1 l2).get? (H1 s.heap l1).objs.size = some _ := Heap.get?_push_size _ rfl
  have r3 : (H3 s.heap l1 l2).get? (H2 s.heap l1 l2).objs.size = some _ := Heap.get?_push_size _ rfl
  have r4 : (H4 s.heap l1 l2).get? (H3 s.heap l1 l2).objs.size = some _ := Heap.get?_push_size _ rfl
  have r5 : (H5 s.heap l1 l2).get? (H4 s.heap l1 l2).objs.size = some _ := Heap.get?_push_size _ rfl
  have n1 : (H1 s.heap l1).objs.size = s.heap.objs.size + 1 := Heap.size_push ..
  have n2 : (H2 s.heap l1 l2).objs.size = s.heap.objs.size + 2 := by rw [Heap.size_push, n1]
  have n3 : (H3 s.heap l1 l2).objs.size = s.heap.objs.size + 3 := by rw [Heap.size_push, n2]
  have n4 : (H4 s.heap l1 l2).objs.size = s.heap.objs.size + 4 := by rw [Heap.size_push, n3]
  have r3 : (H5 s.heap l1 l2).get? (H2 s.heap l1 l2).objs.size = some { cls := .type "tuple", data := .seq #[.ref s.heap.objs.size, .ref (H1 s.heap l1).objs.size] } := up (up r3)
  have r4 : (H5 s.heap l1 l2).get? (H3 s.heap l1 l2).objs.size = some { cls := .type "tuple", data := .seq #[.none, .none] } := up r4
  have r2 : (H5 s.heap l1 l2).get? (H1 s.heap l1).objs.size = some { cls := .type "tuple_iterator", data := .fields #[.ref l2, .int 0 0] } := up (up (up r2))
  show _ ∧ _
  rw [n2, n3, n4] at r5
  rw [n1, n2] at r3
  rw [n3] at r4
  rw [n1] at r2
  rw [n4]
  exact ⟨⟨_, r5, rfl⟩, h _ ⟨r5, r3, ⟨_, _, r4⟩, ⟨_, up (up (up (up r1))), rfl, rfl⟩, ⟨_, r2, rfl, rfl⟩⟩ fun c o r => up (up (up (up (up r))))⟩
end
/-- a list at a, a tuple at b as they stand at each turn, the items in new pairs -/
def It (K : PySem.W.Frag) (a b : Addr) : L2.It :=
  ⟨fun i H => ∃ (xs ys : List V) (x y : V), xs[i]? = some x ∧ ys[i]? = some y ∧ SqL K H a xs ∧ SqT K H b ys,
    fun i H v H' => ∃ T x y, v = .ref T ∧ H T = none ∧ H' = upd H T (.tup [x, y]) ∧ (∀ xs, SqL K H a xs → xs[i]? = some x) ∧ (∀ ys, SqT K H b ys → ys[i]? = some y),
    fun i H => ∃ xs ys : List V, (xs.length ≤ i ∨ ys.length ≤ i) ∧ SqL K H a xs ∧ SqT K H b ys⟩
theorem mem5 {c z TI TO i1 i2 : Addr} (h : c ∈ [z, TI, TO, i1, i2]) : c = z ∨ c = TI ∨ c = TO ∨ c = i1 ∨ c = i2 := by simpa using h
theorem St.lt {h : Heap} {z TI TO i1 i2 l1 l2 c : Addr} {k : Nat} (S : St h z TI TO i1 i2 l1 l2 k) (m : c ∈ [z, TI, TO, i1, i2]) : ∃ o, h.get? c = some o ∧ ∀ v, o.data ≠ .cell v := by
  obtain ⟨hz, ht, ⟨a, b, ho⟩, ⟨o1, r1, _, d1⟩, ⟨o2, r2, _, d2⟩⟩ := S
  rcases mem5 m with r | r | r | r | r <;> rw [r]
  · exact ⟨_, hz, fun v q => by cases q⟩
  · exact ⟨_, ht, fun v q => by cases q⟩
  · exact ⟨_, ho, fun v q => by cases q⟩
  · exact ⟨o1, r1, fun v q => by rw [d1] at q; cases q⟩
  · exact ⟨o2, r2, fun v q => by rw [d2] at q; cases q⟩
theorem turn {P : Program} {w : World} {K : PySem.W.Frag} {elts : List Expr} {kk : Nat} {tpos : Pos} {a b z TI TO i1 i2 : Addr} (D : ZipApart z TI TO i1 i2 a b) :
    Turn P w K (.Tuple elts kk tpos) (It K a b) [z, TI, TO, i1, i2] z (fun i h => St h z TI TO i1 i2 a b i) where
  mem := by simp
  obj := fun i h S c hc => S.lt hc
  keep := fun i h h' S k => by
    obtain ⟨hz, ht, ⟨x, y, ho⟩, h1, h2⟩ := S
    exact ⟨k z (by simp) _ hz, k TI (by simp) _ ht, ⟨x, y, k TO (by simp) _ ho⟩, h1.at fun o q => k i1 (by simp) o q, h2.at fun o q => k i2 (by simp) o q⟩
  item := by
    intro X hP hw hK hc i pins s σ H E I hf S hg
    subst hP hw hK
    obtain ⟨xs, ys, x, y, gx, gy, qx, qy⟩ := hg
    obtain ⟨us, rv, p, _⟩ := I.list qx
    obtain ⟨ws, rv2, p2, _⟩ := I.tuple qy
    obtain ⟨u, u1, u2⟩ := rv.get gx
    obtain ⟨w', w1, w2⟩ := rv2.get gy
    have zl : z < s.heap.objs.size := Heap.lt_size S.z
    refine py_item D S p.isList p2 (x := u) (y := w') (by simpa using u1) (by simpa using w1) fun h' z' o' j1 j2 t' k' => ?_
    refine ⟨_, rfl, wpAny_letOwnedTupleGo_zip (s := { s with heap := h' }) z' fun h2 z2 sb => ?_⟩
    have t2 : h2.get? s.heap.objs.size = some { cls := .type "tuple", data := .seq #[u, w'] } := (sb.2 _ (Nat.ne_of_gt zl)).trans t'
    have new : ObjOk X.prog X.w (upd H s.heap.objs.size (.tup [x, y])) h2 s.heap.objs.size (.tup [x, y]) := ⟨(by decide : 2 ≤ sizeLine), [u, w'], .cons u2 (.cons w2 .nil), ⟨_, t2, rfl, _, rfl⟩⟩
    have I1 : Inv X pins σ (upd H s.heap.objs.size (.tup [x, y])) { s with heap := h2 } := I.turnedNew (t' := s.toks) (ch := [z, TI, TO, i1, i2]) (fun c o n q => by
      simp only [List.mem_cons, List.not_mem_nil, or_false, not_or] at n
      exact (sb.2 c n.1).trans (k' c o n.1 n.2.2.1 n.2.2.2.1 n.2.2.2.2 q)) hf (Nat.le_refl _) new
    refine ⟨.ref s.heap.objs.size, _, I1, rfl, ⟨_, x, y, rfl, I.hok.fresh (Nat.le_refl _), rfl, fun l hl => by rw [I.list_inj hl qx]; exact gx, fun l hl => by rw [I.tuple_inj hl qy]; exact gy⟩, ⟨z2, ?_, ⟨u, w', ?_⟩, ?_, ?_⟩, fun c hcm => ?_⟩
    · exact (sb.2 _ D.TIz).trans (k' _ _ D.TIz D.TITO D.TIi1 D.TIi2 S.ti)
    · exact (sb.2 _ D.TOz).trans o'
    · exact j1.at fun o q => (sb.2 _ D.i1z).trans q
    · exact j2.at fun o q => (sb.2 _ D.i2z).trans q
    · obtain ⟨o, ho, _⟩ := S.lt hcm
      rw [upd_ne (Nat.ne_of_lt (Heap.lt_size ho))]
      exact (hf c hcm).1
  done := by
    intro X hP hw hK hc i pins s σ H E I hf S hg
    subst hP hw hK
    obtain ⟨xs, ys, hend, qx, qy⟩ := hg
    obtain ⟨us, rv, p, _⟩ := I.list qx
    obtain ⟨ws, rv2, p2, _⟩ := I.tuple qy
    have n1 := rv.length
    have n2 := rv2.length
    refine py_end (I.ok.hd hc) D S p.isList p2 (hend.imp (fun q => by simp; omega) fun q => by simp; omega) fun h' k' => ⟨rfl, I.turnedL (t' := s.toks) (ch := [z, TI, TO, i1, i2]) (fun c o n q => ?_) hf⟩
    simp only [List.mem_cons, List.not_mem_nil, or_false, not_or] at n
    exact k' c o n.1 n.2.2.1 n.2.2.2.1 n.2.2.2.2 q
  self := fun A i s Q E S h => wpAny_pyIter_zip S.z h
/-- zip of two lists, two tuples, a list and a tuple -/
def iZ (K : PySem.W.Frag) (ta : TA) : TI := fun σ H R => ta σ H fun vs H1 => ∃ a b xs ys, vs = [.ref a, .ref b] ∧ ((SqL K H1 a xs ∧ SqL K H1 b ys ∧ R (Itz K a b) H1) ∨ (SqT K H1 a xs ∧ SqT K H1 b ys ∧ R (ItzT K a b) H1) ∨ (SqL K H1 a xs ∧ SqT K H1 b ys ∧ R (It K a b) H1))
theorem pi_zip {X : Cx} {e e2 : Expr} {ta : TA} {p pos tpos : Pos} {elts : List Expr} {kk : Nat} (hg : Gl X "zip") (hm : X.mg "zip" = none) (ha : PA X [e, e2] ta) (hs : starEach [e, e2] X.env = (false, eval e X.env) :: starEach [e2] X.env) (hpl : (backTo pos (starEach [e2] X.env)).any (·.1) = false) :
    PI X (.Tuple elts kk tpos) (.Call (.Name "zip" p) [e, e2] [] pos) (iZ X.K ta) := by
  refine ⟨fun pins s σ H R I h => ?_⟩
  refine Call_ (ld_blt I hg hm PyProof.Rows.boot_zip (PyProof.Rows.callWith_type1 (thn (ha.run pos pins s σ H _ I h) fun us s1 ⟨vs, H1, I1, r1, a, b, xs, ys, ex, q1⟩ => ?_) hs hpl))
  subst ex
  cases r1 with
  | cons r rr =>
    cases rr with
    | cons r' rr =>
      cases rr
      cases r
      cases r'
      have fresh : ∀ c ∈ [s1.heap.objs.size + 4, s1.heap.objs.size + 2, s1.heap.objs.size + 3, s1.heap.objs.size, s1.heap.objs.size + 1], FpOk X pins H1 c := fun c m => by
        have le : s1.heap.objs.size ≤ c := by rcases mem5 m with r | r | r | r | r <;> rw [r] <;> first | exact Nat.le_refl _ | exact Nat.le_add_right _ _
        exact I1.fpOk le (I1.hok.fresh le)
      rcases q1 with ⟨qx, qy, q⟩ | ⟨qx, qy, q⟩ | ⟨qx, qy, q⟩
      · obtain ⟨_, _, p1, _⟩ := I1.list qx
        obtain ⟨_, _, p2, _⟩ := I1.list qy
        exact call_zip_2 p1.isList p2.isList fun h' hz t o j1 j2 _ k => wpAny_pyIter_zip hz ⟨_, _, _, _, H1, rfl, I1.kept (t' := s1.toks) k, turn_zip (PySem.W.ktu_apart s1.heap.objs.size a b p1.lt p2.lt), ⟨hz, t, ⟨_, _, o⟩, j1, j2⟩, fresh, q⟩
      · obtain ⟨_, _, p1, _⟩ := I1.tuple qx
        obtain ⟨_, _, p2, _⟩ := I1.tuple qy
        exact call_zipT p1 p2 fun h' hz t o j1 j2 _ k => wpAny_pyIter_zip hz ⟨_, _, _, _, H1, rfl, I1.kept (t' := s1.toks) k, turn_zipT (PySem.W.ktu_apart s1.heap.objs.size a b p1.lt p2.lt), ⟨hz, t, ⟨_, _, o⟩, j1, j2⟩, fresh, q⟩
      · obtain ⟨_, _, p1, _⟩ := I1.list qx
        obtain ⟨_, _, p2, _⟩ := I1.tuple qy
        exact call_new p1.isList p2 fun h' S k => wpAny_pyIter_zip S.z ⟨_, _, _, _, H1, rfl, I1.kept (t' := s1.toks) k, turn (PySem.W.ktu_apart s1.heap.objs.size a b p1.lt p2.lt), S, fresh, q⟩
end MZ
set_option linter.all false
set_option maxRecDepth 100000
set_option maxHeartbeats 1000000
/-! Targets, walks, comprehensions. -/
namespace MP
open PySem PySem.Spec PyProof.Rows L2 GxR

/-! ### targets -/
def tgs : Tg → List Nat
  | .nm i => [i]
  | .t1 a => tgs a
  | .cons a r => tgs a ++ tgs r
section
variable {c : Cn} {σ : L2.St} {H : Hp} {ω : Om} {e : Env'}
theorem Rel.put {i : Nat} {v : V} {o : O} (R : Rel c ω σ H e) (h : RepO c H ω (.sl i) v o) (hi : i < e.length) : Rel c ω (σ.set i (some v)) H (putO e i o) := by
  refine ⟨by unfold putO; rw [List.length_set, List.length_set, R.len], fun j o' q => ?_, R.tab, R.own⟩
  unfold putO at q
  by_cases z : j = i
  · subst z
    rw [List.getElem?_set, if_pos rfl, if_pos hi] at q
    cases q
    exact ⟨v, by rw [List.getElem?_set, if_pos rfl, if_pos (by rw [R.len]; exact hi)], h⟩
  · rw [List.getElem?_set_ne (Ne.symm z)] at q
    obtain ⟨u, h1, h2⟩ := R.slot j o' q
    exact ⟨u, by rw [List.getElem?_set_ne (Ne.symm z)]; exact h1, h2⟩
/-- a target's reading -/
def TGm (c : Cn) (tg : Tg) : TG := fun v σ H Q => ∃ ω e d e', Rel c ω σ H e ∧ Fz c.K (fr H ω) d v ∧ bind tg d e = some e' ∧ ∀ σ', Rel c ω σ' H e' → (∀ j, j ∉ tgs tg → σ'[j]? = σ[j]?) → Q σ' H
def TGl (c : Cn) (tg : Tg) : TGs := fun vs σ H Q => ∃ ω e ds e', Rel c ω σ H e ∧ FzL c.K (fr H ω) ds vs ∧ bind tg (.tuple ds) e = some e' ∧ ∀ σ', Rel c ω σ' H e' → (∀ j, j ∉ tgs tg → σ'[j]? = σ[j]?) → Q σ' H
theorem PG.imp {X : Cx} {e : Expr} {t t' : TG} (h : PG X e t) (k : ∀ v σ H Q, t' v σ H Q → t v σ H Q) : PG X e t' := ⟨fun pins s σ H v u Q I r w => h.run pins s σ H v u Q I r (k v σ H Q w)⟩
theorem PGs.imp {X : Cx} {e : List Expr} {t t' : TGs} (h : PGs X e t) (k : ∀ v σ H Q, t' v σ H Q → t v σ H Q) : PGs X e t' := ⟨fun pins s σ H v u Q I r w => h.run pins s σ H v u Q I r (k v σ H Q w)⟩
variable {X : Cx} {x : Str} {pos : Pos} {ex : Expr} {es : List Expr} {a r : Tg}
theorem sndG_nm {i : Nat} (hN : X.N.Nodup) (hi : X.N[i]? = some x) (hx : Loc X.env.scope x) (hf : X.fn x = true ∨ X.env.scope.names.lookup x = some .local) : PG X (.Name x pos) (TGm c (.nm i)) :=
  PG.imp (pg_name hN hi hx hf) fun v σ H Q ⟨ω, e, d, e', R, hd, hb, q⟩ => by
    unfold bind at hb
    split at hb
    · next z =>
      cases hb
      exact q _ (R.put hd z) fun j hj => List.getElem?_set_ne (fun z => hj (by simp [tgs, z]))
    · cases hb
theorem sndG_t1 (ha : PG X ex (TGm c a)) (hs : (assignEach [ex] X.env).map (·.2) = assign ex X.env :: (assignEach [] X.env).map (·.2)) : PGs X [ex] (TGl c (.t1 a)) :=
  PGs.imp (pgs_cons ha pgs_nil hs) fun vs σ H Q ⟨ω, e, ds, e', R, hd, hb, q⟩ => by
    unfold bind at hb
    cases ds with
    | nil => cases hb
    | cons d ds =>
      cases ds with
      | cons _ _ => cases hb
      | nil =>
        obtain ⟨v, r', h1, h2, h3⟩ := hd
        cases (show r' = [] from h3)
        subst h1
        exact ⟨v, [], rfl, ω, e, d, e', R, h2, hb, fun σ' R' k => ⟨rfl, q σ' R' k⟩⟩
theorem sndG_cons (ha : PG X ex (TGm c a)) (hr : PGs X es (TGl c r)) (hs : (assignEach (ex :: es) X.env).map (·.2) = assign ex X.env :: (assignEach es X.env).map (·.2)) : PGs X (ex :: es) (TGl c (.cons a r)) :=
  PGs.imp (pgs_cons ha hr hs) fun vs σ H Q ⟨ω, e, ds, e', R, hd, hb, q⟩ => by
    unfold bind at hb
    cases ds with
    | nil => cases hb
    | cons d ds =>
      cases ds with
      | nil => cases hb
      | cons d2 ds =>
        obtain ⟨e1, h1, h2⟩ := Option.bind_eq_some_iff.mp hb
        obtain ⟨v, r', h3, h4, h5⟩ := hd
        subst h3
        refine ⟨v, r', rfl, ω, e, d, e1, R, h4, h1, fun σ1 R1 k1 => ⟨ω, e1, _, e', R1, h5, h2, fun σ2 R2 k2 => q σ2 R2 fun j hj => ?_⟩⟩
        have hj : j ∉ tgs a ∧ j ∉ tgs r := by simpa [tgs] using hj
        exact (k2 j hj.2).trans (k1 j hj.1)
theorem bind_len : ∀ {tg : Tg} {d : D} {e e' : Env'}, bind tg d e = some e' → e'.length = e.length
  | .nm i, d, e, e', h => by
    unfold bind at h
    split at h
    · cases h; unfold putO; rw [List.length_set]
    · cases h
  | .t1 a, d, e, e', h => by
    unfold bind at h
    split at h
    · exact bind_len h
    · cases h
  | .cons a r, d, e, e', h => by
    unfold bind at h
    split at h
    · obtain ⟨e1, h1, h2⟩ := Option.bind_eq_some_iff.mp h
      rw [bind_len h2, bind_len h1]
    · cases h
/-- how many items a pattern takes -/
def tgn : Tg → Nat
  | .nm _ => 0
  | .t1 _ => 1
  | .cons _ r => tgn r + 1
def isPat : Tg → Bool
  | .nm _ => false
  | .t1 _ => true
  | .cons _ r => isPat r
theorem bind_tgn : ∀ {tg : Tg} {ds : List D} {e e' : Env'}, isPat tg = true → bind tg (.tuple ds) e = some e' → ds.length = tgn tg
  | .nm i, ds, e, e', p, h => by cases p
  | .t1 a, ds, e, e', p, h => by
    unfold bind at h
    cases ds with
    | nil => cases h
    | cons d ds =>
      cases ds with
      | nil => rfl
      | cons _ _ => cases h
  | .cons a r, ds, e, e', p, h => by
    unfold bind at h
    cases ds with
    | nil => cases h
    | cons d ds =>
      cases ds with
      | nil => cases h
      | cons d2 ds =>
        obtain ⟨e1, h1, h2⟩ := Option.bind_eq_some_iff.mp h
        show (d2 :: ds).length + 1 = tgn r + 1
        rw [bind_tgn (tg := r) p h2]
theorem bind_tuple : ∀ {tg : Tg} {d : D} {e e' : Env'}, isPat tg = true → bind tg d e = some e' → ∃ ds, d = .tuple ds
  | .nm i, d, e, e', p, h => by cases p
  | .t1 a, d, e, e', p, h => by
    unfold bind at h
    split at h
    · exact ⟨_, rfl⟩
    · cases h
  | .cons a r, d, e, e', p, h => by
    unfold bind at h
    split at h
    · exact ⟨_, rfl⟩
    · cases h
theorem sndG_tup {k : Nat} {tg : Tg} (hK : X.K = c.K) (hc : X.calm = true) (hp : isPat tg = true) (h : PGs X es (TGl c tg)) (hn : (assignEach es X.env).length = tgn tg) (hst : (assignEach es X.env).findIdx? (·.1) = none) : PG X (.Tuple es k pos) (TGm c tg) :=
  PG.imp (pg_tup hc h hn hst) fun v σ H Q ⟨ω, e, d, e', R, hd, hb, q⟩ => by
    obtain ⟨ds, rfl⟩ := bind_tuple hp hb
    obtain ⟨a, vs, h1, h2, h3⟩ := hd
    exact ⟨a, vs, h1, by rw [hK]; exact SqT.fr h2, by rw [h3.length]; exact bind_tgn hp hb, ω, e, ds, e', R, h3, hb, q⟩
end

/-! ### walks -/
/-- one item comes -/
def Step (c : Cn) (H : Hp) (ω : Om) (H' : Hp) (d : D) (x : V) : Prop := ∃ ω', Grow H ω H' ω' ∧ Fz c.K (fr H' ω') d x ∧ ∀ σ e, Rel c ω σ H e → Rel c ω' σ H' e
def Runs (c : Cn) (J : It) (xs : List D) (H : Hp) (ω : Om) : Prop := ∀ ω' H', Up (fr H ω) (fr H' ω') → (∀ (i : Nat) d, xs[i]? = some d → J.go i H' ∧ ∀ x H'', J.yld i H' x H'' → Step c H' ω' H'' d x) ∧ J.stop xs.length H'
def TIt (c : Cn) (f : Sv (List D)) : TI := fun σ H R => ∃ ω e xs e', Rel c ω σ H e ∧ f e = some (xs, e') ∧ ∀ ω' H' J, Grow H ω H' ω' → Rel c ω' σ H' e' → Runs c J xs H' ω' → R J H'
section
variable {c : Cn} {σ : L2.St} {H : Hp} {ω : Om} {e : Env'}
theorem runs_of {J : It} {n : Nat} {G : Hp → Prop} {Y : Nat → Hp → V → Hp → Prop} {xs : List D} (w : Walk J n G Y) (hn : n = xs.length) (hG : ∀ ω' H', Up (fr H ω) (fr H' ω') → G H')
    (hY : ∀ ω' H' (i : Nat) d x H'', Up (fr H ω) (fr H' ω') → xs[i]? = some d → Y i H' x H'' → Step c H' ω' H'' d x) : Runs c J xs H ω := fun ω' H' g => by
  subst hn
  refine ⟨fun i d hd => ?_, w.stops H' (hG ω' H' g)⟩
  have hi : i < xs.length := (List.getElem?_eq_some_iff.mp hd).1
  exact ⟨w.goes i H' hi (hG ω' H' g), fun x H'' y => hY ω' H' i d x H'' g hd (w.yields i H' x H'' hi (hG ω' H' g) y)⟩
theorem step_same {d : D} {x : V} (h : Fz c.K (fr H ω) d x) : Step c H ω H d x := ⟨ω, Grow.refl, h, fun _ _ R => R⟩
theorem step_pair {d1 d2 : D} {x y : V} {T : Addr} (hT : H T = none) (h1 : Fz c.K (fr H ω) d1 x) (h2 : Fz c.K (fr H ω) d2 y) : Step c H ω (upd H T (.tup [x, y])) (.tuple [d1, d2]) (.ref T) := by
  have ne : ∀ a o, H a = some o → a ≠ T := fun a o e z => by rw [z, hT] at e; cases e
  have G : Grow H ω (upd H T (.tup [x, y])) (fun a => if a = T then none else ω a) := ⟨fun a o e _ _ => by rw [upd_ne (ne a o e)]; exact e, fun a ps e => ⟨ps, by rw [upd_ne (ne a _ e)]; exact e⟩, fun a o e _ => if_neg (ne a o e)⟩
  exact ⟨_, G, ⟨T, [x, y], rfl, .inl (.inl (fr_some.mpr ⟨if_pos rfl, upd_same⟩)), ⟨x, [y], rfl, Fz.up G.up _ _ h1, y, [], rfl, Fz.up G.up _ _ h2, rfl⟩⟩, fun σ e R => (R.new (u := .tup [x, y]) (l := none) hT fun z => nomatch z).1⟩
theorem runs_list {a : Addr} {xs : List D} {vs : List V} (h : SqL c.K (fr H ω) a vs) (l : FzL c.K (fr H ω) xs vs) : Runs c (Itl c.K a) xs H ω :=
  runs_of (walk_list (xs := vs)) l.length (fun ω' H' g => MP.SqL.fr (MP.SqL.up g h)) fun ω' H' i d x H'' g hd y => by
    obtain ⟨rfl, hx⟩ := y
    obtain ⟨v, h1, h2⟩ := (FzL.up g _ _ l).get hd
    rw [hx] at h1; cases h1
    exact step_same h2
theorem runs_tup {a : Addr} {xs : List D} {vs : List V} (h : SqT c.K (fr H ω) a vs) (l : FzL c.K (fr H ω) xs vs) : Runs c (Itt c.K a) xs H ω :=
  runs_of (walk_tup (xs := vs)) l.length (fun ω' H' g => MP.SqT.fr (MP.SqT.up g h)) fun ω' H' i d x H'' g hd y => by
    obtain ⟨rfl, hx⟩ := y
    obtain ⟨v, h1, h2⟩ := (FzL.up g _ _ l).get hd
    rw [hx] at h1; cases h1
    exact step_same h2
theorem runs_rng {lo : Int} {n : Nat} : Runs c (Itr lo n) (rngD lo n) H ω :=
  runs_of (walk_range) (by simp [rngD]) (fun _ _ _ => trivial) fun ω' H' i d x H'' g hd y => by
    obtain ⟨rfl, rfl⟩ := y
    unfold rngD at hd
    rw [List.getElem?_map] at hd
    cases q : (List.range n)[i]? with
    | none => rw [q] at hd; cases hd
    | some j =>
      rw [q] at hd
      cases hd
      obtain ⟨h1, h2⟩ := List.getElem?_eq_some_iff.mp q
      rw [List.getElem_range] at h2
      subst h2
      exact step_same rfl
theorem zip_get {α β : Type} : ∀ {xs : List α} {ys : List β} {i : Nat} {p : α × β}, (xs.zip ys)[i]? = some p → xs[i]? = some p.1 ∧ ys[i]? = some p.2
  | [], ys, i, p, h => by simp at h
  | x :: xs, [], i, p, h => by simp at h
  | x :: xs, y :: ys, 0, p, h => by simp at h; subst h; exact ⟨rfl, rfl⟩
  | x :: xs, y :: ys, i + 1, p, h => by simpa using zip_get (i := i) (xs := xs) (ys := ys) (by simpa using h)
def zipD (xs ys : List D) : List D := (xs.zip ys).map fun z => .tuple [z.1, z.2]
theorem zipD_get {xs ys : List D} {i : Nat} {d : D} (h : (zipD xs ys)[i]? = some d) : ∃ d1 d2, d = .tuple [d1, d2] ∧ xs[i]? = some d1 ∧ ys[i]? = some d2 := by
  unfold zipD at h
  rw [List.getElem?_map] at h
  cases q : (xs.zip ys)[i]? with
  | none => rw [q] at h; cases h
  | some p =>
    rw [q] at h
    cases h
    obtain ⟨h1, h2⟩ := zip_get q
    exact ⟨_, _, rfl, h1, h2⟩
theorem runs_zipL {a b : Addr} {xs ys : List D} {vs ws : List V} (h : SqL c.K (fr H ω) a vs) (h' : SqL c.K (fr H ω) b ws) (l : FzL c.K (fr H ω) xs vs) (l' : FzL c.K (fr H ω) ys ws) : Runs c (Itz c.K a b) (zipD xs ys) H ω :=
  runs_of (walk_zip (xs := vs) (ys := ws) rfl) (by simp [zipD, l.length, l'.length]) (fun ω' H' g => ⟨MP.SqL.fr (MP.SqL.up g h), MP.SqL.fr (MP.SqL.up g h')⟩) fun ω' H' i d x H'' g hd y => by
    obtain ⟨T, x1, y1, rfl, hT, rfl, hx, hy⟩ := y
    obtain ⟨d1, d2, rfl, e1, e2⟩ := zipD_get hd
    obtain ⟨v1, h1, h2⟩ := (FzL.up g _ _ l).get e1
    obtain ⟨v2, h3, h4⟩ := (FzL.up g _ _ l').get e2
    rw [show vs[i]? = some x1 from hx] at h1; cases h1
    rw [show ws[i]? = some y1 from hy] at h3; cases h3
    exact step_pair hT h2 h4
theorem walk_zipT {K : PySem.W.Frag} {a b : Addr} {xs ys : List V} {n : Nat} (hn : n = min xs.length ys.length) : Walk (RZ.ItzT K a b) n (fun H => SqT K H a xs ∧ SqT K H b ys) (YPair (fun i => xs[i]?) (fun i => ys[i]?)) := by
  subst hn
  refine ⟨fun i _ hi q => ?_, fun _ q => ⟨xs, ys, q.1, q.2, by omega⟩, fun i H v H' _ q y => ?_⟩
  · have h1 : i < xs.length := by omega
    have h2 : i < ys.length := by omega
    exact ⟨xs, ys, xs[i], ys[i], q.1, q.2, by simp [h1], by simp [h2]⟩
  · obtain ⟨T, x, z, h1, h2, h3, h4, h5⟩ := y
    exact ⟨T, x, z, h1, h2, h3, h4 xs q.1, h5 ys q.2⟩
theorem runs_zipT {a b : Addr} {xs ys : List D} {vs ws : List V} (h : SqT c.K (fr H ω) a vs) (h' : SqT c.K (fr H ω) b ws) (l : FzL c.K (fr H ω) xs vs) (l' : FzL c.K (fr H ω) ys ws) : Runs c (RZ.ItzT c.K a b) (zipD xs ys) H ω :=
  runs_of (walk_zipT (xs := vs) (ys := ws) rfl) (by simp [zipD, l.length, l'.length]) (fun ω' H' g => ⟨MP.SqT.fr (MP.SqT.up g h), MP.SqT.fr (MP.SqT.up g h')⟩) fun ω' H' i d x H'' g hd y => by
    obtain ⟨T, x1, y1, rfl, hT, rfl, hx, hy⟩ := y
    obtain ⟨d1, d2, rfl, e1, e2⟩ := zipD_get hd
    obtain ⟨v1, h1, h2⟩ := (FzL.up g _ _ l).get e1
    obtain ⟨v2, h3, h4⟩ := (FzL.up g _ _ l').get e2
    rw [show vs[i]? = some x1 from hx] at h1; cases h1
    rw [show ws[i]? = some y1 from hy] at h3; cases h3
    exact step_pair hT h2 h4
theorem walk_zipM {K : PySem.W.Frag} {a b : Addr} {xs ys : List V} {n : Nat} (hn : n = min xs.length ys.length) : Walk (MZ.It K a b) n (fun H => SqL K H a xs ∧ SqT K H b ys) (YPair (fun i => xs[i]?) (fun i => ys[i]?)) := by
  subst hn
  refine ⟨fun i _ hi q => ?_, fun _ q => ⟨xs, ys, by omega, q.1, q.2⟩, fun i H v H' _ q y => ?_⟩
  · have h1 : i < xs.length := by omega
    have h2 : i < ys.length := by omega
    exact ⟨xs, ys, xs[i], ys[i], by simp [h1], by simp [h2], q.1, q.2⟩
  · obtain ⟨T, x, z, h1, h2, h3, h4, h5⟩ := y
    exact ⟨T, x, z, h1, h2, h3, h4 xs q.1, h5 ys q.2⟩
theorem runs_zipM {a b : Addr} {xs ys : List D} {vs ws : List V} (h : SqL c.K (fr H ω) a vs) (h' : SqT c.K (fr H ω) b ws) (l : FzL c.K (fr H ω) xs vs) (l' : FzL c.K (fr H ω) ys ws) : Runs c (MZ.It c.K a b) (zipD xs ys) H ω :=
  runs_of (walk_zipM (xs := vs) (ys := ws) rfl) (by simp [zipD, l.length, l'.length]) (fun ω' H' g => ⟨MP.SqL.fr (MP.SqL.up g h), MP.SqT.fr (MP.SqT.up g h')⟩) fun ω' H' i d x H'' g hd y => by
    obtain ⟨T, x1, y1, rfl, hT, rfl, hx, hy⟩ := y
    obtain ⟨d1, d2, rfl, e1, e2⟩ := zipD_get hd
    obtain ⟨v1, h1, h2⟩ := (FzL.up g _ _ l).get e1
    obtain ⟨v2, h3, h4⟩ := (FzL.up g _ _ l').get e2
    rw [show vs[i]? = some x1 from hx] at h1; cases h1
    rw [show ws[i]? = some y1 from hy] at h3; cases h3
    exact step_pair hT h2 h4
def enmD (xs : List D) : List D := xs.zipIdx.map fun z => .tuple [.int z.2, z.1]
theorem enmD_get {xs : List D} {i : Nat} {d : D} (h : (enmD xs)[i]? = some d) : ∃ d1, d = .tuple [.int i, d1] ∧ xs[i]? = some d1 := by
  unfold enmD at h
  rw [List.getElem?_map, List.getElem?_zipIdx] at h
  cases q : xs[i]? with
  | none => rw [q] at h; cases h
  | some p =>
    rw [q] at h
    cases h
    exact ⟨p, by simp, rfl⟩
theorem runs_enmL {a : Addr} {xs : List D} {vs : List V} (h : SqL c.K (fr H ω) a vs) (l : FzL c.K (fr H ω) xs vs) : Runs c (Ite c.K a) (enmD xs) H ω :=
  runs_of (walk_enum (xs := vs)) (by simp [enmD, l.length]) (fun ω' H' g => MP.SqL.fr (MP.SqL.up g h)) fun ω' H' i d x H'' g hd y => by
    obtain ⟨T, x1, y1, rfl, hT, rfl, hx, hy⟩ := y
    obtain ⟨d1, rfl, e1⟩ := enmD_get hd
    obtain ⟨v1, h1, h2⟩ := (FzL.up g _ _ l).get e1
    rw [show vs[i]? = some y1 from hy] at h1; cases h1
    cases hx
    exact step_pair (d1 := .int i) hT rfl h2
/-- what is walked stands still -/
def stillT (i : Nat) : Lb → Option Lb := fun l => if l.1 = .sl i then none else some l
theorem still_ok {m : M} {d : D} (R : Rel c ω σ H e) (hn : now m d e = some d) : ∃ ω', Grow H ω H ω' ∧ Rel c ω' σ H (stillM m e) ∧ (∀ v, Hold c σ m H ω v d → Fz c.K (fr H ω') d v) ∧ ∀ m' d', now m' d' e = some d' → now m' d' (stillM m e) = some d' := by
  cases m with
  | bor i =>
    have hn : getB e i = some d := hn
    have hx : ∃ x, e[i]? = some (some (.b x)) ∧ x.toD = d := by
      unfold getB at hn
      split at hn
      · next x hx => exact ⟨x, hx, Option.some.inj hn⟩
      · cases hn
    obtain ⟨x, q, hd⟩ := hx
    have es : stillM (.bor i) e = e.set i (some (dat x.toD)) := by
      unfold stillM
      simp only [q]
    have hi : i < e.length := (List.getElem?_eq_some_iff.mp q).1
    obtain ⟨v0, h1, h2⟩ := R.slot i _ q
    have fz : Fz c.K (fr H (rl ω (stillT i))) x.toD v0 := RepB.froz h2 (if_pos rfl)
    rw [es]
    refine ⟨rl ω (stillT i), Grow.rl fun j f => if_neg (by simp), ⟨by rw [R.len, List.length_set], fun j o h => ?_, fun P hP => ⟨(R.tab P hP).1, rl_none (R.tab P hP).2⟩, fun a l h => ?_⟩, fun v hv => ?_, fun m' d' hm => ?_⟩
    · by_cases z : j = i
      · subst z
        rw [List.getElem?_set, if_pos rfl, if_pos hi] at h
        cases h
        exact ⟨v0, h1, fz⟩
      · rw [List.getElem?_set_ne (Ne.symm z)] at h
        obtain ⟨u, h3, h4⟩ := R.slot j o h
        exact ⟨u, h3, h4.rl fun f => if_neg (by intro q; cases q; exact z rfl)⟩
    · unfold rl at h
      cases q : ω a with
      | none => rw [q] at h; cases h
      | some l' => exact R.own a l' q
    · have hv : σ[i]? = some (some v) := hv
      rw [hv] at h1
      cases h1
      rw [← hd]
      exact fz
    · cases m' with
      | bor j =>
        have hm : getB e j = some d' := hm
        show getB (e.set i (some (dat x.toD))) j = some d'
        by_cases z : j = i
        · subst z
          rw [hn] at hm
          cases hm
          unfold getB
          rw [List.getElem?_set, if_pos rfl, if_pos hi]
          exact congrArg some hd
        · unfold getB at hm ⊢
          rw [List.getElem?_set_ne (Ne.symm z)]
          exact hm
      | _ => rfl
  | _ => exact ⟨ω, Grow.refl, R, fun v hv => hv, fun m' d' h => h⟩
theorem snd_var {X : Cx} {C : CallF} {i : Nat} {x : Str} {pos : Pos} (hN : X.N[i]? = some x) (hv : Vis X.env.scope x) (hd : (x == ("__debug__" : Str)) = false) (hcd : (x == ("__classdict__" : Str)) = false) : PE X (.Name x pos) (TO c (ev C (.var i))) :=
  PE.imp (pe_var hN hv hd hcd) fun σ H Q ⟨ω, e, r, e', R, hf, q⟩ => by
    unfold ev at hf
    obtain ⟨d, h1, h2⟩ := Option.map_eq_some_iff.mp hf
    cases h2
    obtain ⟨ω', g, R', hF, _⟩ := still_ok (m := .bor i) (d := d) R h1
    unfold getB at h1
    split at h1
    · next b hb =>
      obtain ⟨v, e1, e2⟩ := R.slot i _ hb
      exact ⟨v, e1, q ω' H v g R' (show RepO c H ω' .tmp v (dat d) from hF v e1)⟩
    · cases h1
theorem PI.or {X : Cx} {tg e : Expr} {t t' : TI} (h : PI X tg e t) (h' : PI X tg e t') : PI X tg e (fun σ H R => t σ H R ∨ t' σ H R) := ⟨fun pins s σ H Q I w => w.elim (h.run pins s σ H Q I) (h'.run pins s σ H Q I)⟩
variable {X : Cx} {C : CallF} {a b tg : Expr} {ma mb : M} {p pos : Pos}
theorem Fz.lst {K : PySem.W.Frag} {F : Hp} {ds : List D} {v : V} (h : Fz K F (.list ds) v) : ∃ a vs, v = .ref a ∧ SqL K F a vs ∧ FzL K F ds vs := h
theorem Fz.tup {K : PySem.W.Frag} {F : Hp} {ds : List D} {v : V} (h : Fz K F (.tuple ds) v) : ∃ a vs, v = .ref a ∧ SqT K F a vs ∧ FzL K F ds vs := h
theorem sndI_dat (hK : X.K = c.K) (ha : PE X a (TH c ma (evb C ma))) : PI X tg a (TIt c (evi C (.dat ma))) :=
  PI.imp (PI.or (pi_list ha) (pi_tup ha)) fun σ H R ⟨ω, e, xs, e', hR, hf, q⟩ => by
    unfold evi at hf
    obtain ⟨⟨d, e1⟩, h1, hf⟩ := Option.bind_eq_some_iff.mp hf
    obtain ⟨xs', h2, hf⟩ := Option.map_eq_some_iff.mp hf
    cases hf
    rw [hK]
    cases d with
    | list ds =>
      cases h2
      refine .inl ⟨ω, e, _, e1, hR, h1, fun ω1 H1 v g1 R1 hv => ?_⟩
      obtain ⟨ω2, g2, R2, hF, _⟩ := still_ok R1 (evb_now h1)
      obtain ⟨l, vs, e2, e3, e4⟩ := Fz.lst (hF v hv)
      exact ⟨l, e2, ⟨vs, MP.SqL.fr e3⟩, q ω2 H1 _ (g1.trans g2) R2 (runs_list e3 e4)⟩
    | tuple ds =>
      cases h2
      refine .inr ⟨ω, e, _, e1, hR, h1, fun ω1 H1 v g1 R1 hv => ?_⟩
      obtain ⟨ω2, g2, R2, hF, _⟩ := still_ok R1 (evb_now h1)
      obtain ⟨l, vs, e2, e3, e4⟩ := Fz.tup (hF v hv)
      exact ⟨l, e2, ⟨vs, MP.SqT.fr e3⟩, q ω2 H1 _ (g1.trans g2) R2 (runs_tup e3 e4)⟩
    | _ => cases h2
theorem sndI_rng (hg : Gl X "range") (hm : X.mg "range" = none) (ha : PE X a (TD c fun e => lift (ev C ma e))) (hs : starEach [a] X.env = [(false, eval a X.env)]) : PI X tg (.Call (.Name "range" p) [a] [] pos) (TIt c (evi C (.rng ma))) :=
  PI.imp (pi_range1 hg hm (pa_cons ha pa_nil (by rw [hs]; rfl)) hs) fun σ H R ⟨ω, e, xs, e', hR, hf, q⟩ => by
    unfold evi at hf
    obtain ⟨⟨d, e1⟩, h1, hf⟩ := Option.bind_eq_some_iff.mp hf
    refine ⟨ω, e, _, e1, hR, h1, fun ω1 H1 v g1 R1 hv => ?_⟩
    cases d with
    | int n =>
      simp only at hf
      split at hf
      · next z =>
        cases hf
        exact ⟨n, by rw [show v = .int n from hv], z.1, z.2, q ω1 H1 _ g1 R1 runs_rng⟩
      · cases hf
    | _ => cases hf
theorem sndI_rng2 (hg : Gl X "range") (hm : X.mg "range" = none) (ha : PE X a (TD c fun e => lift (ev C ma e))) (hb : PE X b (TD c fun e => lift (ev C mb e))) (hs : starEach [a, b] X.env = [(false, eval a X.env), (false, eval b X.env)]) (hs2 : starEach [b] X.env = [(false, eval b X.env)]) :
    PI X tg (.Call (.Name "range" p) [a, b] [] pos) (TIt c (evi C (.rng2 ma mb))) :=
  PI.imp (pi_range2 hg hm (pa_cons ha (pa_cons hb pa_nil (by rw [hs2]; rfl)) (by rw [hs, hs2])) hs hs2) fun σ H R ⟨ω, e, xs, e', hR, hf, q⟩ => by
    unfold evi at hf
    obtain ⟨⟨d, e1⟩, h1, hf⟩ := Option.bind_eq_some_iff.mp hf
    obtain ⟨⟨d', e2⟩, h2, hf⟩ := Option.bind_eq_some_iff.mp hf
    refine ⟨ω, e, _, e1, hR, h1, fun ω1 H1 v g1 R1 hv => ⟨ω1, e1, _, e2, R1, h2, fun ω2 H2 w g2 R2 hw => ?_⟩⟩
    cases d with
    | int i =>
      cases d' with
      | int j =>
        simp only at hf
        split at hf
        · next z =>
          cases hf
          exact ⟨i, j, by rw [show v = .int i from hv, show w = .int j from hw], z, q ω2 H2 _ (g1.trans g2) R2 runs_rng⟩
        · cases hf
      | _ => cases hf
    | _ => cases hf
theorem sndI_zip {elts : List Expr} {kk : Nat} {tpos : Pos} (hK : X.K = c.K) (hg : Gl X "zip") (hm : X.mg "zip" = none) (ha : PE X a (TH c ma (evb C ma))) (hb : PE X b (TH c mb (evb C mb)))
    (hs : starEach [a, b] X.env = (false, eval a X.env) :: starEach [b] X.env) (hs2 : starEach [b] X.env = (false, eval b X.env) :: starEach [] X.env) : PI X (.Tuple elts kk tpos) (.Call (.Name "zip" p) [a, b] [] pos) (TIt c (evi C (.zip ma mb))) :=
  PI.imp (MZ.pi_zip hg hm (pa_cons ha (pa_cons hb pa_nil hs2) hs) hs (by rw [hs2]; rfl)) fun σ H R ⟨ω, e, xs, e', hR, hf, q⟩ => by
    unfold evi at hf
    obtain ⟨⟨d, e1⟩, h1, hf⟩ := Option.bind_eq_some_iff.mp hf
    obtain ⟨⟨d', e2⟩, h2, hf⟩ := Option.bind_eq_some_iff.mp hf
    obtain ⟨x, h3, hf⟩ := Option.bind_eq_some_iff.mp hf
    have hx : now ma x e2 = some x := by
      cases ma with
      | bor i => exact h3
      | _ => rfl
    refine ⟨ω, e, _, e1, hR, h1, fun ω1 H1 v g1 R1 hv => ⟨ω1, e1, _, e2, R1, h2, fun ω2 H2 w g2 R2 hw => ?_⟩⟩
    have hvx : Hold c σ ma H2 ω2 v x := by
      have := hv.grow g2
      cases ma with
      | bor i => exact this
      | _ =>
        have h3 : some d = some x := h3
        cases h3
        exact this
    obtain ⟨ω3, g3, R3, hF, hk⟩ := still_ok R2 hx
    obtain ⟨ω4, g4, R4, hF4, _⟩ := still_ok (m := mb) (d := d') R3 (hk _ _ (evb_now h2))
    have fx := Fz.up g4.up _ _ (hF v hvx)
    have fy := hF4 w (hw.grow g3)
    have gg := ((g1.trans g2).trans g3).trans g4
    rw [hK]
    cases x with
    | list xs =>
      cases d' with
      | list ys =>
        cases hf
        obtain ⟨l, vs, e3, e4, e5⟩ := Fz.lst fx
        obtain ⟨l', vs', e6, e7, e8⟩ := Fz.lst fy
        subst e3 e6
        exact ⟨l, l', vs, vs', rfl, .inl ⟨MP.SqL.fr e4, MP.SqL.fr e7, q ω4 H2 _ gg R4 (runs_zipL e4 e7 e5 e8)⟩⟩
      | tuple ys =>
        cases hf
        obtain ⟨l, vs, e3, e4, e5⟩ := Fz.lst fx
        obtain ⟨l', vs', e6, e7, e8⟩ := Fz.tup fy
        subst e3 e6
        exact ⟨l, l', vs, vs', rfl, .inr (.inr ⟨MP.SqL.fr e4, MP.SqT.fr e7, q ω4 H2 _ gg R4 (runs_zipM e4 e7 e5 e8)⟩)⟩
      | _ => cases hf
    | tuple xs =>
      cases d' with
      | tuple ys =>
        cases hf
        obtain ⟨l, vs, e3, e4, e5⟩ := Fz.tup fx
        obtain ⟨l', vs', e6, e7, e8⟩ := Fz.tup fy
        subst e3 e6
        exact ⟨l, l', vs, vs', rfl, .inr (.inl ⟨MP.SqT.fr e4, MP.SqT.fr e7, q ω4 H2 _ gg R4 (runs_zipT e4 e7 e5 e8)⟩)⟩
      | _ => cases hf
    | _ => cases hf
end
end MP
set_option linter.all false
set_option maxRecDepth 100000
set_option maxHeartbeats 1000000
/-! enumerate of a tuple. -/
namespace MP
open PySem PySem.Spec PyProof.Rows L2 GxR
open AutoSeq1 (wpAny_loadPart')
theorem meets_enumT (l : Addr) (items : Array Value) (n : Nat) (dct : Option Addr) (sl : Array (Option Value)) :
    Meets (Builtin.«enumerate.__new__» ⟨[.type "enumerate", .ref l], []⟩) (fun _ R s => s.heap.get? l = some { cls := .type "tuple", dict := dct, data := .seq items n, slots := sl } ∧
      R (.ok (.ret (.ref (s.heap.push { cls := .type "tuple_iterator", data := .fields #[.ref l, .int 0 0] }).objs.size)))
        { s with heap := (s.heap.push { cls := .type "tuple_iterator", data := .fields #[.ref l, .int 0 0] }).push { cls := .type "enumerate", data := .fields #[.none, .bool false, .ref s.heap.objs.size, rawInt 0, .none, .none] } }) :=
  .of_wp fun prog w A R s h => by
    obtain ⟨hp, g, d, tk, os⟩ := s
    obtain ⟨hl, h⟩ := h
    have hsub := sub_enumerate
    have hL : Heap.IsTuple (Shared.heap ⟨hp, g, d, tk, os⟩) l items := ⟨_, hl, rfl, n, rfl⟩
    wp_walk using wpAny_loadPart' hl
    refine wpAny_stack_any fun st => wpAny_pure ?_
    split
    · rename_i c _ _ _ _ _
      cases (c == Value.type "enumerate")
      · wp_walk using wpAny_loadPart' hl, wpAny_pyIter_tuple hL
        exact ⟨_, rfl, h⟩
      · wp_walk using wpAny_loadPart' hl, wpAny_pyIter_tuple hL
        exact ⟨_, rfl, h⟩
    · wp_walk using wpAny_loadPart' hl, wpAny_pyIter_tuple hL
      exact ⟨_, rfl, h⟩
section
variable {prog : Program} {w : World} {A : Around} {E : Value → Shared → Prop} {s : Shared}
theorem call_enumT {l : Addr} {items : Array Value} {Q : Value → Shared → Prop} (hL : s.heap.IsTuple l items)
    (h : ∀ h', IsEnum h' (s.heap.objs.size + 1) s.heap.objs.size 0 .none → h'.IsTupleIter s.heap.objs.size l 0 → h'.objs.size = s.heap.objs.size + 2 →
      (∀ b o, s.heap.get? b = some o → h'.get? b = some o) → Q (.ref (s.heap.objs.size + 1)) { s with heap := h' }) :
    wpAny (model prog w) A (call (.type "enumerate") [.ref l]) Q E s := by
  obtain ⟨⟨cl, dct, dt, sl⟩, hl, hc, n, hd⟩ := hL
  obtain rfl : cl = .type "tuple" := hc
  obtain rfl : dt = .seq items n := hd
  refine callType_new F.called_enumerate (by decide) (F.typeCall_enumerate_1 _) (F.newCall_enumerate_1 _) (fun obj => F.args_object_init_2 obj _) F.entry_enumerate_new (meets_enumT l items n dct sl) ⟨hl, ?_⟩
  have hz : (s.heap.push { cls := .type "tuple_iterator", data := .fields #[.ref l, .int 0 0] }).objs.size = s.heap.objs.size + 1 := Heap.size_push ..
  show _ ∧ _
  rw [hz]
  have he := Heap.get?_push_size (s.heap.push { cls := .type "tuple_iterator", data := .fields #[.ref l, .int 0 0] }) (o := { cls := .type "enumerate", data := .fields #[.none, .bool false, .ref s.heap.objs.size, rawInt 0, .none, .none] }) rfl
  rw [hz] at he
  exact ⟨⟨_, he, rfl⟩, h _ he ⟨_, Heap.get?_push_of_some _ (Heap.get?_push_size _ rfl), rfl, rfl⟩ (by rw [Heap.size_push, hz]) fun b o x => Heap.get?_push_of_some _ (Heap.get?_push_of_some _ x)⟩
end
/-- the tuple's items, numbered, in new pairs -/
def IteT (K : PySem.W.Frag) (a : Addr) : It :=
  ⟨fun i H => ∃ (xs : List V) (x : V), SqT K H a xs ∧ xs[i]? = some x, fun i H v H' => ∃ T x, v = .ref T ∧ H T = none ∧ H' = upd H T (.tup [.int (i : Nat), x]) ∧ ∀ xs, SqT K H a xs → xs[i]? = some x, fun i H => ∃ xs : List V, SqT K H a xs ∧ xs.length = i⟩
theorem turn_enumT {P : Program} {w : World} {K : PySem.W.Frag} {elts : List Expr} {kk : Nat} {tpos : Pos} {a e it : Addr} (hae : a ≠ it) :
    Turn P w K (.Tuple elts kk tpos) (IteT K a) [e, it] e (fun i h => (∃ old, IsEnum h e it ((i : Nat) : Int) old) ∧ h.IsTupleIter it a i ∧ e ≠ it) where
  mem := by simp
  obj := fun i h st b hb => by
    obtain ⟨⟨old, he⟩, ⟨o, ho, hc, hd⟩, _⟩ := st
    have e' : b = e ∨ b = it := by simpa using hb
    rcases e' with z | z
    · rw [z]; exact ⟨_, he, fun v q => nomatch q⟩
    · rw [z]; exact ⟨o, ho, fun v q => by rw [hd] at q; cases q⟩
  keep := fun i h h' st k => let ⟨⟨old, he⟩, hi, hne⟩ := st; ⟨⟨old, k e (by simp) _ he⟩, hi.at fun o q => k it (by simp) o q, hne⟩
  item := by
    intro X hP hw hK hc i pins s σ H E I hf st hg
    subst hP hw hK
    obtain ⟨⟨old, he⟩, hit, hne⟩ := st
    obtain ⟨xs, x, hq, hx⟩ := hg
    obtain ⟨its, rv, p, hz⟩ := I.tuple hq
    obtain ⟨u, hu, ru⟩ := rv.get hx
    have hel : e < s.heap.objs.size := Heap.lt_size he
    have hil : it < s.heap.objs.size := by obtain ⟨_, q, _⟩ := hit; exact Heap.lt_size q
    have hsz : i < its.toArray.size := by
      have := (List.getElem?_eq_some_iff.mp hu).1
      simpa using this
    -- the enumerate's own object is no tuple
    have hea : e ≠ a := by
      intro z
      obtain ⟨o, h1, h2, _⟩ := p
      rw [← z, he] at h1
      cases h1
      injection h2 with h2
      exact absurd h2 (by decide)
    have D := Draws.tuple (prog := X.prog) (w := X.w) (A := X.A.in1) (show X.A.in1.handled = none from I.ok.hd hc) it a hae its.toArray
    refine wpAny_pyNext_enum_itemD D he ⟨hit, p⟩ hsz hne (by simp [hne, hea]) fun y h' tk hy ho st' hT hsz' hk => ?_
    have hyu : y = u := by
      have : its.toArray[i]? = some u := by simpa using hu
      rw [this] at hy
      exact (Option.some.inj hy).symm
    subst hyu
    refine ⟨_, rfl, wpAny_letOwnedTupleGo_enum (s := { s with heap := h', toks := tk + 1 }) ho fun h'' he' sb => ?_⟩
    have hT2 : h''.get? s.heap.objs.size = some { cls := .type "tuple", data := .seq #[.int i tk, y] } := (sb.2 _ (Nat.ne_of_gt hel)).trans hT
    have new : ObjOk X.prog X.w (upd H s.heap.objs.size (.tup [.int (i : Nat), x])) h'' s.heap.objs.size (.tup [.int (i : Nat), x]) :=
      ⟨by show 2 ≤ sizeLine; decide, [.int i tk, y], .cons ⟨_, rfl⟩ (.cons ru .nil), ⟨_, hT2, rfl, _, rfl⟩⟩
    have I1 : Inv X pins σ (upd H s.heap.objs.size (.tup [.int (i : Nat), x])) { s with heap := h'', toks := tk + 1 } :=
      I.turnedNew (ch := [e, it]) (fun b ob hb q => (sb.2 b (fun z => hb (by simp [z]))).trans (hk b ob (fun z => hb (by simp [z])) (fun z => hb (by simp [z])) q)) hf (Nat.le_refl _) new
    refine ⟨.ref s.heap.objs.size, _, I1, rfl, ⟨_, x, rfl, I.hok.fresh (Nat.le_refl _), rfl, fun ys hy => by rw [I.tuple_inj hy hq]; exact hx⟩, ⟨⟨y, ?_⟩, st'.1.at fun o q => (sb.2 it (Ne.symm hne)).trans q, hne⟩, fun b hb => ?_⟩
    · have e1 : ((i + 1 : Nat) : Int) = (i : Int) + 1 := by omega
      rw [e1]; exact he'
    · have hb' : b < s.heap.objs.size := by
        have e' : b = e ∨ b = it := by simpa using hb
        rcases e' with z | z
        · rw [z]; exact hel
        · rw [z]; exact hil
      rw [upd_ne (Nat.ne_of_lt hb')]
      exact (hf b hb).1
  done := by
    intro X hP hw hK hc i pins s σ H E I hf st hg
    subst hP hw hK
    obtain ⟨⟨old, he⟩, hit, hne⟩ := st
    obtain ⟨xs, hq, hx⟩ := hg
    obtain ⟨its, rv, p, hz⟩ := I.tuple hq
    obtain ⟨f0, f1, f2, f3, f4, f5⟩ := hf it (by simp)
    have hl := rv.length
    have D := Draws.tuple (prog := X.prog) (w := X.w) (A := X.A.in1) (show X.A.in1.handled = none from I.ok.hd hc) it a hae its.toArray
    have e1 : i = its.toArray.size := by simp; omega
    exact wpAny_pyNext_enum_endD D he ⟨e1 ▸ hit, p⟩ fun h' eb => ⟨rfl, I.turned (t' := s.toks) (fun b o hb q => eb b o hb q) f0 f1 f3 f4 f5⟩
  self := fun A i s Q E st h => let ⟨⟨_, he⟩, _⟩ := st; wpAny_pyIter_enum he h
theorem walk_enumT {K : PySem.W.Frag} {a : Addr} {xs : List V} : Walk (IteT K a) xs.length (fun H => SqT K H a xs) (YPair (fun i => some (.int (i : Nat))) (fun i => xs[i]?)) := by
  refine ⟨fun i _ hi q => ⟨xs, xs[i], q, by simp [hi]⟩, fun _ q => ⟨xs, q, rfl⟩, fun i H v H' _ q y => ?_⟩
  obtain ⟨T, x, h1, h2, h3, h4⟩ := y
  exact ⟨T, .int (i : Nat), x, h1, h2, h3, rfl, h4 xs q⟩
def iEnumT (K : PySem.W.Frag) (ta : TA) : TI := fun σ H R => ta σ H fun vs H1 => ∃ a xs, vs = [.ref a] ∧ SqT K H1 a xs ∧ R (IteT K a) H1
theorem pi_enumT {X : Cx} {e : Expr} {ta : TA} {p pos tpos : Pos} {elts : List Expr} {kk : Nat} (hg : Gl X "enumerate") (hm : X.mg "enumerate" = none) (ha : PA X [e] ta) (hs : starEach [e] X.env = [(false, eval e X.env)]) :
    PI X (.Tuple elts kk tpos) (.Call (.Name "enumerate" p) [e] [] pos) (iEnumT X.K ta) := by
  refine ⟨fun pins s σ H R I h => ?_⟩
  refine Call_ (ld_blt I hg hm boot_enumerate (PyProof.Rows.callWith_type1 (thn (ha.run pos pins s σ H _ I h) fun us s1 ⟨vs, H1, I1, r1, q1⟩ => ?_) hs rfl))
  obtain ⟨a, xs, ex, hq, q⟩ := q1
  subst ex
  rw [Vals.ref1 r1]
  obtain ⟨its, rv, p', hz⟩ := I1.tuple hq
  have hal : a < s1.heap.objs.size := p'.lt
  refine call_enumT (show s1.heap.IsTuple a its.toArray from p') fun h' he hit hsz hk => wpAny_pyIter_enum he ?_
  have I2 : Inv X pins σ H1 { s1 with heap := h' } := I1.kept (t' := s1.toks) hk
  refine ⟨s1.heap.objs.size + 1, [s1.heap.objs.size + 1, s1.heap.objs.size], _, _, H1, rfl, I2, turn_enumT (Nat.ne_of_lt hal), ⟨⟨.none, he⟩, hit, Nat.succ_ne_self _⟩, fun b hb => ?_, q⟩
  have hle : s1.heap.objs.size ≤ b := by
    have e' : b = s1.heap.objs.size + 1 ∨ b = s1.heap.objs.size := by simpa using hb
    rcases e' with z | z
    · rw [z]; exact Nat.le_add_right _ _
    · rw [z]; exact Nat.le_refl _
  exact I1.fpOk hle (I1.hok.fresh hle)
section
variable {c : Cn} {σ : L2.St} {H : Hp} {ω : Om} {X : Cx} {C : CallF} {a : Expr} {ma : M} {p pos : Pos}
theorem runs_enmT {a : Addr} {xs : List D} {vs : List V} (h : SqT c.K (fr H ω) a vs) (l : FzL c.K (fr H ω) xs vs) : Runs c (IteT c.K a) (enmD xs) H ω :=
  runs_of (walk_enumT (xs := vs)) (by simp [enmD, l.length]) (fun ω' H' g => MP.SqT.fr (MP.SqT.up g h)) fun ω' H' i d x H'' g hd y => by
    obtain ⟨T, x1, y1, rfl, hT, rfl, hx, hy⟩ := y
    obtain ⟨d1, rfl, e1⟩ := enmD_get hd
    obtain ⟨v1, h1, h2⟩ := (FzL.up g _ _ l).get e1
    rw [show vs[i]? = some y1 from hy] at h1; cases h1
    cases hx
    exact step_pair (d1 := .int i) hT rfl h2
theorem sndI_enm {elts : List Expr} {kk : Nat} {tpos : Pos} (hK : X.K = c.K) (hg : Gl X "enumerate") (hm : X.mg "enumerate" = none) (ha : PE X a (TH c ma (evb C ma))) (hs : starEach [a] X.env = [(false, eval a X.env)]) :
    PI X (.Tuple elts kk tpos) (.Call (.Name "enumerate" p) [a] [] pos) (TIt c (evi C (.enm ma))) :=
  PI.imp (PI.or (pi_enum hg hm (pa_cons ha pa_nil (by rw [hs]; rfl)) hs) (pi_enumT hg hm (pa_cons ha pa_nil (by rw [hs]; rfl)) hs)) fun σ H R ⟨ω, e, xs, e', hR, hf, q⟩ => by
    unfold evi at hf
    obtain ⟨⟨d, e1⟩, h1, hf⟩ := Option.bind_eq_some_iff.mp hf
    obtain ⟨xs', h2, hf⟩ := Option.map_eq_some_iff.mp hf
    cases hf
    rw [hK]
    cases d with
    | list ds =>
      cases h2
      refine .inl ⟨ω, e, _, e1, hR, h1, fun ω1 H1 v g1 R1 hv => ?_⟩
      obtain ⟨ω2, g2, R2, hF, _⟩ := still_ok R1 (evb_now h1)
      obtain ⟨l, vs, e2, e3, e4⟩ := Fz.lst (hF v hv)
      subst e2
      exact ⟨l, vs, rfl, MP.SqL.fr e3, q ω2 H1 _ (g1.trans g2) R2 (runs_enmL e3 e4)⟩
    | tuple ds =>
      cases h2
      refine .inr ⟨ω, e, _, e1, hR, h1, fun ω1 H1 v g1 R1 hv => ?_⟩
      obtain ⟨ω2, g2, R2, hF, _⟩ := still_ok R1 (evb_now h1)
      obtain ⟨l, vs, e2, e3, e4⟩ := Fz.tup (hF v hv)
      subst e2
      exact ⟨l, vs, rfl, MP.SqT.fr e3, q ω2 H1 _ (g1.trans g2) R2 (runs_enmT e3 e4)⟩
    | _ => cases h2
end
end MP
set_option linter.all false
set_option maxRecDepth 100000
set_option maxHeartbeats 1000000
/-! Comprehensions, generator expressions. -/
namespace MP
open PySem PySem.Spec PyProof.Rows L2 GxR

theorem wipe_get {σ : L2.St} {i : Nat} : ∀ {vs : List Nat}, (wipe σ vs)[i]? = if i ∈ vs then (σ[i]?).map (fun _ => none) else σ[i]?
  | [] => by simp [wipe]
  | v :: vs => by
    unfold wipe
    rw [List.getElem?_set, wipe_length]
    by_cases z : v = i
    · subst z
      rw [if_pos rfl, if_pos (List.mem_cons_self : v ∈ v :: vs)]
      by_cases h : v < σ.length
      · rw [if_pos h, List.getElem?_eq_getElem h]; rfl
      · rw [if_neg h, List.getElem?_eq_none_iff.mpr (by omega)]; rfl
    · rw [if_neg z, wipe_get]
      by_cases h : i ∈ vs
      · rw [if_pos h, if_pos (List.mem_cons_of_mem _ h)]
      · rw [if_neg h, if_neg (by simp only [List.mem_cons, not_or]; exact ⟨Ne.symm z, h⟩)]
theorem wipe'_length {e : Env'} : ∀ vs : List Nat, (wipe' e vs).length = e.length
  | [] => rfl
  | v :: vs => by
    show ((wipe' e vs).set v none).length = _
    rw [List.length_set, wipe'_length vs]
theorem wipe'_get {e : Env'} {i : Nat} : ∀ {vs : List Nat}, (wipe' e vs)[i]? = if i ∈ vs then (e[i]?).map (fun _ => none) else e[i]?
  | [] => by simp [wipe']
  | v :: vs => by
    show ((wipe' e vs).set v none)[i]? = _
    rw [List.getElem?_set, wipe'_length]
    by_cases z : v = i
    · subst z
      rw [if_pos rfl, if_pos (List.mem_cons_self : v ∈ v :: vs)]
      by_cases h : v < e.length
      · rw [if_pos h, List.getElem?_eq_getElem h]; rfl
      · rw [if_neg h, List.getElem?_eq_none_iff.mpr (by omega)]; rfl
    · rw [if_neg z, wipe'_get]
      by_cases h : i ∈ vs
      · rw [if_pos h, if_pos (List.mem_cons_of_mem _ h)]
      · rw [if_neg h, if_neg (by simp only [List.mem_cons, not_or]; exact ⟨Ne.symm z, h⟩)]
theorem wipe'_some {e : Env'} {i : Nat} {o : O} {vs : List Nat} (h : (wipe' e vs)[i]? = some (some o)) : e[i]? = some (some o) ∧ i ∉ vs := by
  rw [wipe'_get] at h
  split at h
  · cases q : e[i]? with
    | none => rw [q] at h; cases h
    | some x => rw [q] at h; cases h
  · next z => exact ⟨h, z⟩
theorem wipe_ext {σ σ' : L2.St} {vs : List Nat} (hl : σ'.length = σ.length) (h : ∀ j, j ∉ vs → σ'[j]? = σ[j]?) : wipe σ' vs = wipe σ vs := by
  apply List.ext_getElem?
  intro i
  rw [wipe_get, wipe_get]
  by_cases z : i ∈ vs
  · rw [if_pos z, if_pos z]
    by_cases k : i < σ.length
    · rw [List.getElem?_eq_getElem k, List.getElem?_eq_getElem (by rw [hl]; exact k)]; rfl
    · rw [List.getElem?_eq_none_iff.mpr (by omega), List.getElem?_eq_none_iff.mpr (by omega)]
  · rw [if_neg z, if_neg z, h i z]
section
variable {c : Cn} {σ : L2.St} {H : Hp} {ω : Om} {e : Env'} {vs : List Nat}
theorem Rel.wipe (R : Rel c ω σ H e) : Rel c ω (L2.wipe σ vs) H (wipe' e vs) :=
  R.weak (by rw [wipe_length, wipe'_length, R.len]) fun i o h => by
    obtain ⟨h1, h2⟩ := wipe'_some h
    exact ⟨h1, by rw [wipe_get, if_neg h2]⟩
theorem Rel.unwipe (R : Rel c ω (L2.wipe σ vs) H (wipe' e vs)) : Rel c ω σ H (wipe' e vs) :=
  R.weak (by rw [← R.len, wipe_length]) fun i o h => by
    obtain ⟨h1, h2⟩ := wipe'_some h
    exact ⟨h, by rw [wipe_get, if_neg h2]⟩
/-- a thing set aside is written -/
theorem Rel.updFly {D : Addr} {u : HO} {j : Nat} {f : Option Str} (R : Rel c ω σ H e) (hD : ω D = some (.fly j, f)) (hm : Mut (some u)) : Up (fr H ω) (fr (upd H D u) ω) ∧ Rel c ω σ (upd H D u) e := by
  have up : Up (fr H ω) (fr (upd H D u) ω) := fun a o h n => by
    obtain ⟨h1, h2⟩ := fr_some.mp h
    refine fr_some.mpr ⟨h1, ?_⟩
    rw [upd_ne (fun z => by rw [z, hD] at h1; cases h1)]
    exact h2
  refine ⟨up, R.len, fun i o h => ?_, fun P hP => ?_, fun a l h => ?_⟩
  · obtain ⟨v, h1, h2⟩ := R.slot i o h
    refine ⟨v, h1, h2.grow up fun a o f e1 e2 => ⟨?_, e2⟩⟩
    rw [upd_ne (fun z => by rw [z, hD] at e2; cases e2)]
    exact e1
  · obtain ⟨⟨ps, h1, h3⟩, h2⟩ := R.tab P hP
    refine ⟨⟨ps, ?_, h3⟩, h2⟩
    rw [upd_ne (fun z => by rw [z, hD] at h2; cases h2)]
    exact h1
  · by_cases z : a = D
    · exact ⟨u, by rw [z]; exact upd_same, hm⟩
    · obtain ⟨o, h1, h2⟩ := R.own a l h
      exact ⟨o, by rw [upd_ne z]; exact h1, h2⟩
theorem Grow.updFresh {H1 : Hp} {ω1 : Om} {D : Addr} {u : HO} (g : Grow H1 ω1 H ω) (hD : H1 D = none) : Grow H1 ω1 (upd H D u) ω := by
  have ne : ∀ a o, H1 a = some o → a ≠ D := fun a o e z => by rw [z, hD] at e; cases e
  exact ⟨fun a o h p n => by rw [upd_ne (ne a o h)]; exact g.keep a o h p n, fun a ps h => by
    obtain ⟨ps', h'⟩ := g.tbl a ps h
    exact ⟨ps', by rw [upd_ne (ne a _ h)]; exact h'⟩, g.lab⟩
variable {X : Cx} {C : CallF} {elt tg iter a : Expr} {ifs : List Expr} {scope : Scope} {own : List (Str × Nat)} {pos : Pos} {tgm : Tg} {it : Itm} {cs : Ms} {me ma : M}
theorem ao1 {go : Bool} {Q : Bool → Hp → Prop} (h : TT' c (evAO C go (.cons ma .nil)) σ H Q) : TT' c (tst C ma) σ H Q := by
  obtain ⟨ω, e, r, e', R, h1, q⟩ := h
  unfold evAO at h1
  obtain ⟨⟨d, e2⟩, h2, h1⟩ := Option.bind_eq_some_iff.mp h1
  obtain ⟨k, h3, h1⟩ := Option.bind_eq_some_iff.mp h1
  have e3 : r = k ∧ e' = e2 := by
    by_cases z : k = go
    · rw [if_pos z] at h1
      unfold evAO at h1
      cases h1
      exact ⟨z.symm, rfl⟩
    · rw [if_neg z] at h1
      cases h1
      exact ⟨by cases k <;> cases go <;> simp_all, rfl⟩
  obtain ⟨rfl, rfl⟩ := e3
  exact ⟨ω, e, _, _, R, by unfold tst; rw [h2, Option.bind_some, h3]; rfl, q⟩
theorem PTs.imp {t t' : TT} (h : PTs X ifs t) (k : ∀ σ H Q, t' σ H Q → t σ H Q) : PTs X ifs t' := ⟨fun pins s σ H Q I w => h.run pins s σ H Q I (k σ H Q w)⟩
theorem sndF_nil : PTs X [] (TT' c (evAO C true .nil)) := PTs.imp pts_nil fun σ H Q ⟨ω, e, r, e', R, h1, q⟩ => by
  unfold evAO at h1
  cases h1
  exact q ω H Grow.refl R
theorem sndF_one (h : PT X a (TT' c (tst C ma))) : PTs X [a] (TT' c (evAO C true (.cons ma .nil))) := PTs.imp (pts_one h) fun σ H Q => ao1
/-- one turn -/
def turnL (C : CallF) (tg : Tg) (cs : Ms) (elt : M) : D → Env' → Option (Option D × Env') := fun x e => (bind tg x e).bind fun e1 => (evAO C true cs e1).bind fun c => if c.1 = true then (lift (ev C elt c.2)).map fun y => (some y.1, y.2) else some (none, c.2)
theorem tlc_ok {wvs : List Nat} {Q : VK} (hsub : ∀ j ∈ tgs tgm, j ∈ wvs) (h : TO c (ev C (.lc wvs tgm it cs me)) σ H Q) :
    tLc (TIt c (evi C it)) (TGm c tgm) (TT' c (evAO C true cs)) (TD c fun e => lift (ev C me e)) wvs σ H Q := by
  obtain ⟨ω, e, r, e', R, hf, q⟩ := h
  unfold ev at hf
  obtain ⟨⟨xs, e1⟩, h1, hf⟩ := Option.bind_eq_some_iff.mp hf
  obtain ⟨⟨res, e2⟩, h2, hf⟩ := Option.map_eq_some_iff.mp hf
  cases hf
  have h2 : lcLoop wvs (turnL C tgm cs me) xs e1 [] = some (res, e2) := h2
  refine ⟨ω, e, xs, e1, R, h1, fun ω1 H1 J g1 R1 run D hD => ?_⟩
  let P : Nat → Hp → Prop := fun i H => ∃ ω e acc accv, Grow H1 ω1 H ω ∧ Rel c ω (L2.wipe σ wvs) H (wipe' e wvs) ∧ H D = some (.lst accv) ∧ ω D = some (.fly 0, none) ∧ FzL c.K (fr H ω) acc accv ∧ lcLoop wvs (turnL C tgm cs me) (xs.drop i) e acc = some (res, e2)
  refine ⟨fun i m H => m = xs.length - i ∧ i ≤ xs.length ∧ P i H, ⟨xs.length, by simp, Nat.zero_le _, ?_⟩, ?_⟩
  · obtain ⟨R', G⟩ := R1.new (u := .lst []) (l := some (.fly 0, none)) hD fun _ => trivial
    exact ⟨_, e1, [], [], G, R'.wipe, upd_same, if_pos rfl, rfl, h2⟩
  rintro i m H ⟨rfl, hi, ω2, e3, acc, accv, g2, R2, hHD, hωD, hacc, hl⟩
  obtain ⟨rgo, rstop⟩ := run ω2 H g2.up
  by_cases hlt : i < xs.length
  · have hd : xs[i]? = some xs[i] := List.getElem?_eq_getElem hlt
    obtain ⟨go, step⟩ := rgo i _ hd
    rw [List.drop_eq_getElem_cons hlt] at hl
    unfold lcLoop at hl
    obtain ⟨⟨y, e4⟩, h3, hl⟩ := Option.bind_eq_some_iff.mp hl
    unfold turnL at h3
    obtain ⟨e5, h4, h3⟩ := Option.bind_eq_some_iff.mp h3
    obtain ⟨⟨b, e6⟩, h5, h3⟩ := Option.bind_eq_some_iff.mp h3
    refine .inr ⟨go, P (i + 1), fun H' p => ⟨xs.length - (i + 1), by omega, rfl, hlt, p⟩, fun x H' yl => ?_⟩
    obtain ⟨ω3, g3, fz, tr⟩ := step x H' yl
    refine ⟨ω3, _, _, e5, tr _ _ R2, fz, h4, fun σ' R4 k4 => ⟨?_, ω3, e5, b, e6, R4, h5, fun ω5 H5 g5 R5 => ?_⟩⟩
    · refine wipe_ext ?_ fun j hj => ?_
      · rw [R4.len, bind_len h4, wipe'_length]
        have := R2.len
        rw [wipe_length, wipe'_length] at this
        exact this.symm
      · rw [k4 j (fun z => hj (hsub j z)), wipe_get, if_neg hj]
    · have wl : L2.wipe σ' wvs = L2.wipe σ wvs := by
        refine wipe_ext ?_ fun j hj => ?_
        · rw [R4.len, bind_len h4, wipe'_length]
          have := R2.len
          rw [wipe_length, wipe'_length] at this
          exact this.symm
        · rw [k4 j (fun z => hj (hsub j z)), wipe_get, if_neg hj]
      have gg := g3.trans g5
      have pD : Prot (ω2 D) := by rw [hωD]; trivial
      cases b with
      | true =>
        rw [if_pos rfl] at h3
        show TD c (fun e => lift (ev C me e)) σ' H5 fun y H4 => ∃ acc, H4 D = some (.lst acc) ∧ acc.length < sizeLine ∧ P (i + 1) (upd H4 D (.lst (acc ++ [y])))
        obtain ⟨⟨y', e7⟩, h6, h3⟩ := Option.map_eq_some_iff.mp h3
        cases h3
        refine ⟨ω5, e6, _, _, R5, h6, fun ω6 H6 v g6 R6 hv => ?_⟩
        have ggg := gg.trans g6
        have hHD6 := ggg.keep D _ hHD pD fun ps z => by cases z
        have hωD6 : ω6 D = some (.fly 0, none) := (ggg.lab D _ hHD pD).trans hωD
        simp only at hl
        split at hl
        case isFalse => cases hl
        next hz =>
        refine ⟨accv, hHD6, by rw [hacc.length]; exact hz, ?_⟩
        obtain ⟨up, R7⟩ := Rel.updFly (u := .lst (accv ++ [v])) R6 hωD6 trivial
        refine ⟨ω6, _, acc ++ [y'], accv ++ [v], (g2.trans ggg).updFresh hD, by rw [← wl]; exact R7.wipe, upd_same, hωD6, ?_, hl⟩
        exact (FzL.up up _ _ (FzL.up ggg.up _ _ hacc)).append ⟨v, [], rfl, Fz.up up _ _ hv, rfl⟩
      | false =>
        rw [if_neg Bool.false_ne_true] at h3
        show P (i + 1) H5
        cases h3
        exact ⟨ω5, _, acc, accv, g2.trans gg, by rw [← wl]; exact R5.wipe, gg.keep D _ hHD pD (fun ps z => by cases z), (gg.lab D _ hHD pD).trans hωD, FzL.up gg.up _ _ hacc, hl⟩
  · have hi' : i = xs.length := by omega
    subst hi'
    rw [List.drop_length] at hl
    unfold lcLoop at hl
    cases hl
    refine .inl ⟨rstop, ?_⟩
    -- the new list comes to be a value under way
    have up : Up (fr H ω2) (fr H (fun a => if a = D then some (.tmp, none) else ω2 a)) := fun a o h n => by
      obtain ⟨h1, h2⟩ := fr_some.mp h
      have ne : a ≠ D := fun z => by rw [z, hωD] at h1; cases h1
      exact fr_some.mpr ⟨(if_neg ne).trans h1, h2⟩
    refine q (fun a => if a = D then some (.tmp, none) else ω2 a) H _ (g1.trans ⟨g2.keep, g2.tbl, fun a o h p => ?_⟩) ?_ ⟨D, accv, rfl, hHD, if_pos rfl, FzL.up up _ _ hacc⟩
    · have ne : a ≠ D := fun z => by rw [z, hD] at h; cases h
      exact (if_neg ne).trans (g2.lab a o h p)
    · have R3 := R2.unwipe
      refine ⟨R3.len, fun j o h => ?_, fun P hP => ⟨(R3.tab P hP).1, ?_⟩, fun a l h => ?_⟩
      · obtain ⟨v, h1, h2⟩ := R3.slot j o h
        refine ⟨v, h1, h2.grow up fun a o f e1 e2 => ⟨e1, ?_⟩⟩
        have ne : a ≠ D := fun z => by rw [z, hωD] at e2; cases e2
        exact (if_neg ne).trans e2
      · have h := (R3.tab P hP).2
        have ne : P ≠ D := fun z => by rw [z, hωD] at h; cases h
        exact (if_neg ne).trans h
      · by_cases z : a = D
        · exact ⟨.lst accv, by rw [z]; exact hHD, trivial⟩
        · exact R3.own a l ((if_neg z).symm.trans h)
theorem snd_lc {wvs : List Nat} (hc : X.calm = true) (hN : X.N.Nodup) (hi : PI X tg iter (TIt c (evi C it))) (ok : BlkOk X.N X.env.scope scope own) (hv : own.map (·.2) = wvs) (hsub : ∀ j ∈ tgs tgm, j ∈ wvs)
    (hg : ∀ (s : Shared) (H : Hp) (Cc : Addr) (cl : List (Str × Addr)) (fp : List Addr), PG (X.blk s H scope (compEnvC scope cl Cc X.env) fp) tg (TGm c tgm))
    (ht : ∀ (s : Shared) (H : Hp) (Cc : Addr) (cl : List (Str × Addr)) (fp : List Addr), PTs (X.blk s H scope (compEnvC scope cl Cc X.env) fp) ifs (TT' c (evAO C true cs)))
    (he : ∀ (s : Shared) (H : Hp) (Cc : Addr) (cl : List (Str × Addr)) (fp : List Addr), PE (X.blk s H scope (compEnvC scope cl Cc X.env) fp) elt (TD c fun e => lift (ev C me e))) (hs : ∀ x, foldedSetIterable iter X.env x = pure x) :
    PE X (.ListComp elt [⟨tg, iter, ifs, 0⟩] scope pos) (TO c (ev C (.lc wvs tgm it cs me))) :=
  PE.imp (pe_lc hc hN hi ok hg ht he hs) fun σ H Q h => by rw [hv]; exact tlc_ok hsub h

/-! ### generator expressions -/
theorem run_all {P : Program} {w : World} {A : Around} {a : Addr} {s : Shared} {Q E : Value → Shared → Prop} {g : Nat} (hg : s.heap.IsGen a g)
    (h : codeAny (model P w) A (.builtin "all.loop" ⟨[.ref a], []⟩) (fun r s' => match r with | .ok (.ret v) => Q v s' | .ok _ => False | .error e => E e s') s) : wpAny (model P w) A (call (.builtin "all") [.ref a]) Q E s := by
  refine call_function_tree F.kind_all F.plain_all F.entry_all (F.args_all1 _) ?_
  unfold Builtin.«all»
  refine wpAny_bind (m := oneArg "all" _) (wpAny_pure ?_)
  exact wpAny_bind (wpAny_pyIter_gen hg (wpAny_pure ⟨plainId_quiet F.plain_all_loop _, h⟩))
theorem run_any {P : Program} {w : World} {A : Around} {a : Addr} {s : Shared} {Q E : Value → Shared → Prop} {g : Nat} (hg : s.heap.IsGen a g)
    (h : codeAny (model P w) A (.builtin "any.loop" ⟨[.ref a], []⟩) (fun r s' => match r with | .ok (.ret v) => Q v s' | .ok _ => False | .error e => E e s') s) : wpAny (model P w) A (call (.builtin "any") [.ref a]) Q E s := by
  refine call_function_tree F.kind_any F.plain_any F.entry_any (F.args_any1 _) ?_
  unfold Builtin.«any»
  refine wpAny_bind (m := oneArg "any" _) (wpAny_pure ?_)
  exact wpAny_bind (wpAny_pyIter_gen hg (wpAny_pure ⟨plainId_quiet F.plain_any_loop _, h⟩))
theorem capt_len : ∀ {cap : List (Option Nat)} {e e0 : Env'}, capt e cap = some e0 → e0.length = cap.length
  | [], e, e0, h => by unfold capt at h; cases h; rfl
  | none :: r, e, e0, h => by
    unfold capt at h
    obtain ⟨e1, h1, h2⟩ := Option.map_eq_some_iff.mp h
    cases h2
    rw [List.length_cons, List.length_cons, capt_len h1]
  | some j :: r, e, e0, h => by
    unfold capt at h
    split at h
    · obtain ⟨e1, h1, h2⟩ := Option.map_eq_some_iff.mp h
      cases h2
      rw [List.length_cons, List.length_cons, capt_len h1]
    · cases h
theorem capt_get : ∀ {cap : List (Option Nat)} {e e0 : Env'} {i : Nat} {o : O}, capt e cap = some e0 → e0[i]? = some (some o) → ∃ j x, cap[i]? = some (some j) ∧ e[j]? = some (some (dat x)) ∧ o = dat x
  | [], e, e0, i, o, h, q => by unfold capt at h; cases h; simp at q
  | none :: r, e, e0, i, o, h, q => by
    unfold capt at h
    obtain ⟨e1, h1, h2⟩ := Option.map_eq_some_iff.mp h
    cases h2
    cases i with
    | zero => simp at q
    | succ i => simpa using capt_get (i := i) h1 (by simpa using q)
  | some j :: r, e, e0, i, o, h, q => by
    unfold capt at h
    split at h
    · next x hx =>
      obtain ⟨e1, h1, h2⟩ := Option.map_eq_some_iff.mp h
      cases h2
      cases i with
      | zero =>
        simp at q
        exact ⟨j, x, rfl, hx, q.symm⟩
      | succ i => simpa using capt_get (i := i) h1 (by simpa using q)
    · cases h
def capS (σ : L2.St) (cap : List (Option Nat)) : L2.St := cap.map fun o => o.bind fun j => (σ[j]?).join
theorem capS_get {cap : List (Option Nat)} {i : Nat} {v : V} (h : (capS σ cap)[i]? = some (some v)) : ∃ j, cap[i]? = some (some j) ∧ σ[j]? = some (some v) := by
  unfold capS at h
  rw [List.getElem?_map] at h
  cases q : cap[i]? with
  | none => rw [q] at h; cases h
  | some o =>
    rw [q] at h
    cases o with
    | none => cases h
    | some j =>
      have h : (σ[j]?).join = some v := Option.some.inj h
      refine ⟨j, rfl, ?_⟩
      cases z : σ[j]? with
      | none => rw [z] at h; cases h
      | some x => rw [z] at h; rw [show x = some v from h]
theorem rel_capt {cap : List (Option Nat)} {e0 : Env'} (R : Rel c ω σ H e) (h : capt e cap = some e0) : Rel c (rl ω (inT [])) (capS σ cap) H e0 := by
  refine ⟨by rw [capt_len h]; exact List.length_map _, fun i o q => ?_, fun P hP => ⟨(R.tab P hP).1, rl_none (R.tab P hP).2⟩, fun a l q => ?_⟩
  · obtain ⟨j, x, h1, h2, rfl⟩ := capt_get h q
    obtain ⟨v, h3, h4⟩ := R.slot j _ h2
    refine ⟨v, ?_, Fz.up rl_up _ _ (show Fz c.K (fr H ω) x v from h4)⟩
    unfold capS
    rw [List.getElem?_map, h1]
    show some ((σ[j]?).join) = _
    rw [h3]
    rfl
  · unfold rl at q
    cases z : ω a with
    | none => rw [z] at q; cases q
    | some l' => exact R.own a l' z
/-- the table of code has grown -/
theorem rel_tabbed {P : Addr} {H2 : Hp} (hP : P ∈ c.tabs) (R : Rel c ω σ H e) (t : Tabbed P H H2) : Grow H ω H2 ω ∧ Rel c ω σ H2 e := by
  obtain ⟨⟨ps, hp, _⟩, hn⟩ := R.tab P hP
  have ne : ∀ a o, H a = some o → noTbl o → a ≠ P := fun a o h n z => by
    rw [z, hp] at h
    cases h
    exact n ps rfl
  have G : Grow H ω H2 ω := ⟨fun a o h _ n => by rw [t.2 a (ne a o h n)]; exact h, fun a ps' h => by
    by_cases z : a = P
    · obtain ⟨qs, hq, _⟩ := t.1
      exact ⟨qs, by rw [z]; exact hq⟩
    · exact ⟨ps', by rw [t.2 a z]; exact h⟩, fun _ _ _ _ => rfl⟩
  refine ⟨G, R.len, fun i o h => ?_, fun P' hP' => ?_, fun a l h => ?_⟩
  · obtain ⟨v, h1, h2⟩ := R.slot i o h
    refine ⟨v, h1, h2.grow G.up fun a o f e1 e2 => ⟨?_, e2⟩⟩
    rw [t.2 a (fun z => by rw [z, hn] at e2; cases e2)]
    exact e1
  · by_cases z : P' = P
    · rw [z]; exact ⟨t.1, hn⟩
    · obtain ⟨⟨qs, h1, h3⟩, h2⟩ := R.tab P' hP'
      exact ⟨⟨qs, by rw [t.2 P' z]; exact h1, h3⟩, h2⟩
  · obtain ⟨o, h1, h2⟩ := R.own a l h
    exact ⟨o, by rw [t.2 a (fun z => by rw [z, hn] at h; cases h)]; exact h1, h2⟩
/-- back from the block -/
theorem rel_back {H2 : Hp} {ωc : Om} {σ' : L2.St} {e' : Env'} {r : O} {v : V} (R : Rel c ω σ H e) (G : Grow H (rl ω (inT [])) H2 ωc) (R2 : Rel c ωc σ' H2 e') (rep : RepO c H2 ωc .tmp v r) :
    Grow H ω H2 (outO [] ω ωc) ∧ Rel c (outO [] ω ωc) σ H2 e ∧ RepO c H2 (outO [] ω ωc) .tmp v r ∧ Up (fr H2 ωc) (fr H2 (outO [] ω ωc)) :=
  rel_out (os := []) (vs := []) (fs := []) R ⟨rfl, rfl, fun j o v h => by simp at h, fun j i o v h => by simp at h⟩ (by simp) G ⟨rfl, fun i o h => by simp at h, R2.tab, R2.own⟩ rep (by unfold putBack; rfl)
def turnG (C : CallF) (tg : Tg) (cs : Ms) (elt : M) (e0 : Env') : D → Option (Option D) := fun x => (bind tg x e0).bind fun e1 => (evAO C true cs e1).bind fun c => if c.1 = true then (lift (ev C elt c.2)).map fun y => some y.1 else some none
/-- how a block's names stand to the outer ones -/
structure CapOk (X : Cx) (scope : Scope) (N : List Str) (cap : List (Option Nat)) (wvs : List Nat) (tgm : Tg) : Prop where
  len : cap.length = N.length
  ok : ∀ (i j : Nat) x, cap[i]? = some (some j) → N[i]? = some x → scope.names.lookup x = some .free ∧ (X.env.scope.names.lookup x = some .cell ∨ X.env.scope.names.lookup x = some .free) ∧ X.N[j]? = some x
  own : ∀ j ∈ wvs, ∀ i, cap[j]? ≠ some (some i)
  sub : ∀ j ∈ tgs tgm, j ∈ wvs
variable {N : List Str} {cap : List (Option Nat)} {wvs : List Nat} {P : Addr}
theorem CapOk.capt (K : CapOk X scope N cap wvs tgm) : Capt X σ scope N (capS σ cap) := by
  refine ⟨by unfold capS; rw [List.length_map, K.len], fun i x v h1 h2 => ?_⟩
  obtain ⟨j, h3, h4⟩ := capS_get h2
  obtain ⟨k1, k2, k3⟩ := K.ok i j x h3 h1
  exact ⟨k1, k2, j, k3, h4⟩
theorem CapOk.wiped (K : CapOk X scope N cap wvs tgm) {σ' : L2.St} (hl : σ'.length = (capS σ cap).length) (h : ∀ j, j ∉ tgs tgm → σ'[j]? = (capS σ cap)[j]?) : L2.wipe σ' wvs = capS σ cap := by
  rw [wipe_ext hl fun j hj => h j (fun z => hj (K.sub j z))]
  apply List.ext_getElem?
  intro i
  rw [wipe_get]
  split
  · next hi =>
    unfold capS
    rw [List.getElem?_map]
    cases q : cap[i]? with
    | none => rfl
    | some o =>
      cases o with
      | none => rfl
      | some j => exact absurd q (K.own i hi j)
  · rfl
theorem rel_capt_grow {e0 e' : Env'} {ω' : Om} {H' : Hp} {σ0 σ' : L2.St} (h : capt e cap = some e0) (R : Rel c ω σ0 H e0) (g : Grow H ω H' ω') (R' : Rel c ω' σ' H' e') : Rel c ω' σ0 H' e0 :=
  ⟨R.len, fun i o q => by
    obtain ⟨j, x, _, _, rfl⟩ := capt_get h q
    obtain ⟨v, h1, h2⟩ := R.slot i _ q
    exact ⟨v, h1, Fz.up g.up _ _ (show Fz c.K (fr H ω) x v from h2)⟩, R'.tab, R'.own⟩
theorem tgen_ok {Q : VK} {go : Bool} {gk : Gk} (hP : P ∈ c.tabs) (K : CapOk X scope N cap wvs tgm) (hgk : gk = if go = true then .all else .any) (h : TO c (ev C (.gen gk N cap wvs tgm it cs me)) σ H Q) :
    tGen (TIt c (evi C it)) P X scope N wvs (TGm c tgm) (TT' c (evAO C true cs)) (TD c fun e => lift (ev C me e)) go σ H Q := by
  obtain ⟨ω, e, r, e', R, hf, q⟩ := h
  unfold ev at hf
  obtain ⟨⟨xs, e1⟩, h1, hf⟩ := Option.bind_eq_some_iff.mp hf
  obtain ⟨e0, h2, hf⟩ := Option.bind_eq_some_iff.mp hf
  have hf : ∃ b, genAll go (turnG C tgm cs me e0) xs = some b ∧ r = dat (.bool b) ∧ e' = e1 := by
    subst hgk
    cases go with
    | true =>
      obtain ⟨b, h3, h4⟩ := Option.map_eq_some_iff.mp hf
      cases h4
      exact ⟨b, h3, rfl, rfl⟩
    | false =>
      obtain ⟨b, h3, h4⟩ := Option.map_eq_some_iff.mp hf
      cases h4
      exact ⟨b, h3, rfl, rfl⟩
  obtain ⟨b, h3, rfl, rfl⟩ := hf
  refine ⟨ω, e, xs, e', R, h1, fun ω1 H1 J g1 R1 run => ⟨(R1.tab P hP).1, fun H2 tb => ⟨capS σ cap, K.capt, ?_⟩⟩⟩
  obtain ⟨gt, Rt⟩ := rel_tabbed hP R1 tb
  have Rc := rel_capt Rt h2
  have fin : ∀ {ωc : Om} {H' : Hp} {σ' : L2.St} {ex : Env'}, Grow H2 (rl ω1 (inT [])) H' ωc → Rel c ωc σ' H' ex → Q (.bl b) H' := fun {ωc H' σ' ex} G R' => by
    obtain ⟨k1, k2, k3, _⟩ := rel_back Rt G R' (show RepO c H' ωc .tmp (.bl b) (dat (.bool b)) from rfl)
    exact q _ H' _ ((g1.trans gt).trans k1) k2 k3
  let Pv : Nat → Hp → Prop := fun i H => ∃ ωc, Grow H2 (rl ω1 (inT [])) H ωc ∧ Rel c ωc (capS σ cap) H e0 ∧ genAll go (turnG C tgm cs me e0) (xs.drop i) = some b
  refine ⟨fun i m H => m = xs.length - i ∧ i ≤ xs.length ∧ Pv i H, ⟨xs.length, by simp, Nat.zero_le _, rl ω1 (inT []), Grow.refl, Rc, h3⟩, ?_⟩
  rintro _ i m H ⟨rfl, hi, ωc, G, R2, hl⟩
  obtain ⟨rgo, rstop⟩ := run ωc H ((gt.up.trans rl_up).trans G.up)
  by_cases hlt : i < xs.length
  · have hd : xs[i]? = some xs[i] := List.getElem?_eq_getElem hlt
    obtain ⟨jgo, step⟩ := rgo i _ hd
    rw [List.drop_eq_getElem_cons hlt] at hl
    unfold genAll at hl
    obtain ⟨y, h4, hl⟩ := Option.bind_eq_some_iff.mp hl
    unfold turnG at h4
    obtain ⟨e5, h5, h4⟩ := Option.bind_eq_some_iff.mp h4
    obtain ⟨⟨t, e6⟩, h6, h4⟩ := Option.bind_eq_some_iff.mp h4
    refine .inr ⟨jgo, fun x H' yl => ?_⟩
    obtain ⟨ω3, g3, fz, tr⟩ := step x H' yl
    have hlen : (capS σ cap).length = e0.length := by rw [capt_len h2]; exact List.length_map _
    refine ⟨ω3, _, _, e5, tr _ _ R2, fz, h5, fun σ' R4 k4 => ⟨K.wiped (by rw [R4.len, bind_len h5, hlen]) k4, ω3, e5, t, e6, R4, h6, fun ω5 H5 g5 R5 => ?_⟩⟩
    -- the block's own names do not matter any more
    have R5c : Rel c ω5 (capS σ cap) H5 e0 := rel_capt_grow h2 R2 (g3.trans g5) R5
    have gg := (G.trans g3).trans g5
    cases t with
    | true =>
      rw [if_pos rfl] at h4
      obtain ⟨⟨y', e7⟩, h7, h4⟩ := Option.map_eq_some_iff.mp h4
      cases h4
      show TD c (fun e => lift (ev C me e)) σ' H5 _
      refine ⟨ω5, e6, _, _, R5, h7, fun ω6 H6 v g6 R6 hv => ?_⟩
      cases y' with
      | bool k =>
        refine ⟨k, hv, ?_⟩
        simp only at hl
        by_cases z : k = go
        · rw [if_pos z] at hl ⊢
          exact ⟨xs.length - (i + 1), by omega, rfl, hlt, ω6, gg.trans g6, rel_capt_grow h2 R5c g6 R6, hl⟩
        · rw [if_neg z] at hl ⊢
          cases hl
          exact fin (gg.trans g6) R6
      | _ => cases hl
    | false =>
      rw [if_neg Bool.false_ne_true] at h4
      cases h4
      exact ⟨xs.length - (i + 1), by omega, rfl, hlt, ω5, gg, R5c, hl⟩
  · have hi' : i = xs.length := by omega
    subst hi'
    rw [List.drop_length] at hl
    unfold genAll at hl
    cases hl
    exact .inl ⟨rstop, fin G R2⟩

theorem tgenT_ok {Q : VK} (hP : P ∈ c.tabs) (K : CapOk X scope N cap wvs tgm) (h : TO c (ev C (.gen .tuple N cap wvs tgm it cs me)) σ H Q) :
    tGenT (TIt c (evi C it)) P X scope N wvs (TGm c tgm) (TT' c (evAO C true cs)) (TD c fun e => lift (ev C me e)) σ H Q := by
  obtain ⟨ω, e, r, e', R, hf, q⟩ := h
  unfold ev at hf
  obtain ⟨⟨xs, e1⟩, h1, hf⟩ := Option.bind_eq_some_iff.mp hf
  obtain ⟨e0, h2, hf⟩ := Option.bind_eq_some_iff.mp hf
  obtain ⟨res, h3, hf⟩ := Option.map_eq_some_iff.mp hf
  cases hf
  have h3 : genTup (turnG C tgm cs me e0) xs [] = some res := h3
  refine ⟨ω, e, xs, e1, R, h1, fun ω1 H1 J g1 R1 run => ⟨(R1.tab P hP).1, fun H2 tb => ⟨capS σ cap, K.capt, ?_⟩⟩⟩
  obtain ⟨gt, Rt⟩ := rel_tabbed hP R1 tb
  have Rc := rel_capt Rt h2
  have fin : ∀ {ωc : Om} {H' : Hp} {σ' : L2.St} {ex : Env'} {ys : List V}, Grow H2 (rl ω1 (inT [])) H' ωc → Rel c ωc σ' H' ex → FzL c.K (fr H' ωc) res ys → ∀ p, H' p = none → Q (.ref p) (upd H' p (.tup ys)) := fun {ωc H' σ' ex ys} G R' hy => by
    obtain ⟨k1, k2, _, k4⟩ := rel_back Rt G R' (show RepO c H' ωc .tmp .non (dat .none) from rfl)
    exact fin_tup k2 (FzL.up k4 _ _ hy) (Kw.grow q ((g1.trans gt).trans k1))
  let Pv : List V → Nat → Hp → Prop := fun ys i H => ∃ ωc acc, Grow H2 (rl ω1 (inT [])) H ωc ∧ Rel c ωc (capS σ cap) H e0 ∧ FzL c.K (fr H ωc) acc ys ∧ acc.length ≤ sizeLine ∧ genTup (turnG C tgm cs me e0) (xs.drop i) acc = some res
  refine ⟨fun ys i m H => m = xs.length - i ∧ i ≤ xs.length ∧ Pv ys i H, ⟨xs.length, by simp, Nat.zero_le _, rl ω1 (inT []), [], Grow.refl, Rc, rfl, Nat.zero_le _, h3⟩, ?_⟩
  rintro ys i m H ⟨rfl, hi, ωc, acc, G, R2, hacc, hlen0, hl⟩
  obtain ⟨rgo, rstop⟩ := run ωc H ((gt.up.trans rl_up).trans G.up)
  by_cases hlt : i < xs.length
  · have hd : xs[i]? = some xs[i] := List.getElem?_eq_getElem hlt
    obtain ⟨jgo, step⟩ := rgo i _ hd
    rw [List.drop_eq_getElem_cons hlt] at hl
    unfold genTup at hl
    obtain ⟨y, h4, hl⟩ := Option.bind_eq_some_iff.mp hl
    unfold turnG at h4
    obtain ⟨e5, h5, h4⟩ := Option.bind_eq_some_iff.mp h4
    obtain ⟨⟨t, e6⟩, h6, h4⟩ := Option.bind_eq_some_iff.mp h4
    refine .inr ⟨jgo, fun x H' yl => ?_⟩
    obtain ⟨ω3, g3, fz, tr⟩ := step x H' yl
    have hlen : (capS σ cap).length = e0.length := by rw [capt_len h2]; exact List.length_map _
    refine ⟨ω3, _, _, e5, tr _ _ R2, fz, h5, fun σ' R4 k4 => ⟨K.wiped (by rw [R4.len, bind_len h5, hlen]) k4, ω3, e5, t, e6, R4, h6, fun ω5 H5 g5 R5 => ?_⟩⟩
    have R5c : Rel c ω5 (capS σ cap) H5 e0 := rel_capt_grow h2 R2 (g3.trans g5) R5
    have gg := (G.trans g3).trans g5
    cases t with
    | true =>
      rw [if_pos rfl] at h4
      obtain ⟨⟨y', e7⟩, h7, h4⟩ := Option.map_eq_some_iff.mp h4
      cases h4
      show TD c (fun e => lift (ev C me e)) σ' H5 _
      refine ⟨ω5, e6, _, _, R5, h7, fun ω6 H6 v g6 R6 hv => ?_⟩
      simp only at hl
      split at hl
      case isFalse => cases hl
      next hz =>
      refine ⟨by rw [hacc.length]; exact hz, xs.length - (i + 1), by omega, rfl, hlt, ω6, acc ++ [y'], gg.trans g6, rel_capt_grow h2 R5c g6 R6, ?_, by rw [List.length_append]; exact hz, hl⟩
      exact (FzL.up ((g3.trans g5).trans g6).up _ _ hacc).append ⟨v, [], rfl, hv, rfl⟩
    | false =>
      rw [if_neg Bool.false_ne_true] at h4
      cases h4
      exact ⟨xs.length - (i + 1), by omega, rfl, hlt, ω5, acc, gg, R5c, FzL.up (g3.trans g5).up _ _ hacc, hlen0, hl⟩
  · have hi' : i = xs.length := by omega
    subst hi'
    rw [List.drop_length] at hl
    unfold genTup at hl
    cases hl
    exact .inl ⟨rstop, by rw [hacc.length]; exact hlen0, fin G R2 hacc⟩
variable {k : Nat} {cd : Addr} {p gpos : Pos}
theorem snd_all (hr : Room (k + 7) X.A) (hgl : Gl X "all") (hm : X.mg "all" = none) (TB : TabB X.base X.mg cd P) (hcode : X.env.code = .ref cd) (S : GenSc X scope) (hi : PI X tg iter (TIt c (evi C it))) (hP : P ∈ c.tabs) (K : CapOk X scope N cap wvs tgm)
    (hg : ∀ Xg, IsG X scope N k Xg → PG Xg tg (TGm c tgm)) (ht : ∀ Xg, IsG X scope N k Xg → PTs Xg ifs (TT' c (evAO C true cs))) (he : ∀ Xg, IsG X scope N k Xg → PE Xg elt (TD c fun e => lift (ev C me e))) (hs : ∀ v, genFold iter X.env v = pure v) :
    PE X (.Call (.Name "all" p) [.GeneratorExp elt [⟨tg, iter, ifs, 0⟩] scope gpos] [] pos) (TO c (ev C (.gen .all N cap wvs tgm it cs me))) :=
  PE.imp (pe_anyall (go := true) (id := "all") (bf := Builtin.«all») (lp := "all.loop") (hr.mono (by omega)) hgl hm PyProof.Rows.boot_all TB hcode S hi hg ht he hs (by rfl) (by decide) (by decide) F.plain_all_loop F.entry_all_loop (fun A a s Q E gi hg h => run_all hg h) (fun s h => turn_all s h)) fun σ H Q h => tgen_ok hP K rfl h
theorem snd_any (hr : Room (k + 7) X.A) (hgl : Gl X "any") (hm : X.mg "any" = none) (TB : TabB X.base X.mg cd P) (hcode : X.env.code = .ref cd) (S : GenSc X scope) (hi : PI X tg iter (TIt c (evi C it))) (hP : P ∈ c.tabs) (K : CapOk X scope N cap wvs tgm)
    (hg : ∀ Xg, IsG X scope N k Xg → PG Xg tg (TGm c tgm)) (ht : ∀ Xg, IsG X scope N k Xg → PTs Xg ifs (TT' c (evAO C true cs))) (he : ∀ Xg, IsG X scope N k Xg → PE Xg elt (TD c fun e => lift (ev C me e))) (hs : ∀ v, genFold iter X.env v = pure v) :
    PE X (.Call (.Name "any" p) [.GeneratorExp elt [⟨tg, iter, ifs, 0⟩] scope gpos] [] pos) (TO c (ev C (.gen .any N cap wvs tgm it cs me))) :=
  PE.imp (pe_anyall (go := false) (id := "any") (bf := Builtin.«any») (lp := "any.loop") (hr.mono (by omega)) hgl hm PyProof.Rows.boot_any TB hcode S hi hg ht he hs (by rfl) (by decide) (by decide) F.plain_any_loop F.entry_any_loop (fun A a s Q E gi hg h => run_any hg h) (fun s h => turn_any s h)) fun σ H Q h => tgen_ok hP K rfl h
theorem snd_gtup (hr : Room (k + 7) X.A) (hgl : Gl X "tuple") (hm : X.mg "tuple" = none) (TB : TabB X.base X.mg cd P) (hcode : X.env.code = .ref cd) (S : GenSc X scope) (hi : PI X tg iter (TIt c (evi C it))) (hP : P ∈ c.tabs) (K : CapOk X scope N cap wvs tgm)
    (hg : ∀ Xg, IsG X scope N k Xg → PG Xg tg (TGm c tgm)) (ht : ∀ Xg, IsG X scope N k Xg → PTs Xg ifs (TT' c (evAO C true cs))) (he : ∀ Xg, IsG X scope N k Xg → PE Xg elt (TD c fun e => lift (ev C me e))) (hs : ∀ v, genFold iter X.env v = pure v) :
    PE X (.Call (.Name "tuple" p) [.GeneratorExp elt [⟨tg, iter, ifs, 0⟩] scope gpos] [] pos) (TO c (ev C (.gen .tuple N cap wvs tgm it cs me))) :=
  PE.imp (pe_tupG hr hgl hm boot_tuple TB hcode S hi hg ht he hs (by rfl) (by decide) (by decide)) fun σ H Q h => tgenT_ok hP K h
end
end MP
set_option linter.all false
set_option maxRecDepth 100000
set_option maxHeartbeats 1000000
/-! Statements. -/
namespace MP
open PySem PySem.Spec PyProof.Rows L2 GxR

def EndOf (c : Cn) (D : Ends) (r : Fl) (ω : Om) (σ : L2.St) (H : Hp) : Prop := match r with
  | .nx => D.nx σ H
  | .bk => D.bk σ H
  | .ct => D.ct σ H
  | .rt o => ∀ v, RepO c H ω .tmp v o → D.rt v H
/-- what a statement does; the slots in io keep their values -/
def TSm (c : Cn) (io : List Nat) (f : Env' → Out) : TS := fun D σ H => ∃ ω e r e', Rel c ω σ H e ∧ f e = some (r, e') ∧ ∀ ω' H' σ', Grow H ω H' ω' → Rel c ω' σ' H' e' → (∀ j ∈ io, σ'[j]? = σ[j]?) → EndOf c D r ω' σ' H'
section
variable {c : Cn} {io : List Nat} {X : Cx} {C : CallF} {m : M} {ms : Ms} {ss : Ss} {sm : Sm} {st : Stmt} {sts : List Stmt} {ex a : Expr} {pos pos' : Pos} {σ : L2.St} {H : Hp} {ω : Om} {e : Env'} {D : Ends}
theorem sndS_pass : PS X (.Pass pos) (TSm c io (evS C .pss)) := PS.imp ps_pass fun D σ H ⟨ω, e, r, e', R, hf, q⟩ => by
  unfold evS at hf
  cases hf
  exact q ω H σ Grow.refl R fun _ _ => rfl
theorem sndS_brk : PS X (.Break pos) (TSm c io (evS C .brk)) := PS.imp ps_break fun D σ H ⟨ω, e, r, e', R, hf, q⟩ => by
  unfold evS at hf
  cases hf
  exact q ω H σ Grow.refl R fun _ _ => rfl
theorem sndS_cnt : PS X (.Continue pos) (TSm c io (evS C .cnt)) := PS.imp ps_continue fun D σ H ⟨ω, e, r, e', R, hf, q⟩ => by
  unfold evS at hf
  cases hf
  exact q ω H σ Grow.refl R fun _ _ => rfl
theorem sndS_retN : PS X (.Return none pos) (TSm c io (evS C .retN)) := PS.imp ps_retN fun D σ H ⟨ω, e, r, e', R, hf, q⟩ => by
  unfold evS at hf
  cases hf
  exact q ω H σ Grow.refl R (fun _ _ => rfl) .non rfl
theorem sndS_ret (h : PE X ex (TO c (ev C m))) : PS X (.Return (some ex) pos) (TSm c io (evS C (.ret m))) := PS.imp (ps_ret h) fun D σ H ⟨ω, e, r, e', R, hf, q⟩ => by
  unfold evS at hf
  obtain ⟨⟨o, e1⟩, h1, hf⟩ := Option.map_eq_some_iff.mp hf
  cases hf
  exact ⟨ω, e, o, e1, R, h1, fun ω1 H1 v g1 R1 rep => q ω1 H1 σ g1 R1 (fun _ _ => rfl) v rep⟩
theorem sndS_ex (h : PE X ex (TO c (ev C m))) (hs : swapsWith ex none pos.line X.env = pure false) : PS X (.Expr ex pos) (TSm c io (evS C (.ex m))) := PS.imp (ps_expr h hs) fun D σ H ⟨ω, e, r, e', R, hf, q⟩ => by
  unfold evS at hf
  obtain ⟨⟨o, e1⟩, h1, hf⟩ := Option.map_eq_some_iff.mp hf
  cases hf
  exact ⟨ω, e, o, e1, R, h1, fun ω1 H1 v g1 R1 rep => q ω1 H1 σ g1 R1 (fun _ _ => rfl)⟩
theorem sndS_if {c0 : Expr} {x y : List Stmt} {sa sb : Ss} (hc : PT X c0 (TT' c (tst C m))) (ha : PSs X x (TSm c io (evSs C sa))) (hb : PSs X y (TSm c io (evSs C sb))) : PS X (.If c0 x y pos) (TSm c io (evS C (.ife m sa sb))) :=
  PS.imp (ps_if hc ha hb) fun D σ H ⟨ω, e, r, e', R, hf, q⟩ => by
    unfold evS at hf
    obtain ⟨⟨b, e1⟩, h1, hf⟩ := Option.bind_eq_some_iff.mp hf
    refine ⟨ω, e, b, e1, R, h1, fun ω1 H1 g1 R1 => ?_⟩
    cases b with
    | true =>
      rw [if_pos rfl] at hf ⊢
      exact ⟨ω1, e1, r, e', R1, hf, fun ω2 H2 σ2 g2 => q ω2 H2 σ2 (g1.trans g2)⟩
    | false =>
      rw [if_neg Bool.false_ne_true] at hf ⊢
      exact ⟨ω1, e1, r, e', R1, hf, fun ω2 H2 σ2 g2 => q ω2 H2 σ2 (g1.trans g2)⟩
theorem sndS_nil : PSs X [] (TSm c io (evSs C .nil)) := PSs.imp pss_nil fun D σ H ⟨ω, e, r, e', R, hf, q⟩ => by
  unfold evSs at hf
  cases hf
  exact q ω H σ Grow.refl R fun _ _ => rfl
theorem sndS_cons (h1 : PS X st (TSm c io (evS C sm))) (h2 : PSs X sts (TSm c io (evSs C ss))) : PSs X (st :: sts) (TSm c io (evSs C (.cons sm ss))) := PSs.imp (pss_cons h1 h2) fun D σ H ⟨ω, e, r, e', R, hf, q⟩ => by
  unfold evSs at hf
  obtain ⟨⟨r1, e1⟩, h3, hf⟩ := Option.bind_eq_some_iff.mp hf
  refine ⟨ω, e, r1, e1, R, h3, fun ω1 H1 σ1 g1 R1 k1 => ?_⟩
  cases r1 with
  | nx => exact ⟨ω1, e1, r, e', R1, hf, fun ω2 H2 σ2 g2 R2 k2 => q ω2 H2 σ2 (g1.trans g2) R2 fun j hj => (k2 j hj).trans (k1 j hj)⟩
  | bk => cases hf; exact q ω1 H1 σ1 g1 R1 k1
  | ct => cases hf; exact q ω1 H1 σ1 g1 R1 k1
  | rt o => cases hf; exact q ω1 H1 σ1 g1 R1 k1
theorem sndS_doc {x j} (h : PSs X sts (TSm c io (evSs C ss))) : PSs X (.Expr (.Constant (.str x) j pos) pos' :: sts) (TSm c io (evSs C ss)) := PSs.imp (pss_cons ps_doc h) fun D σ H h => h
/-! ### name = value -/
def setT (i : Nat) : Lb → Option Lb
  | (.tmp, f) => some (.sl i, f)
  | l => some l
theorem Rel.take {i : Nat} {v : V} {o : O} (R : Rel c ω σ H e) (h : RepO c H ω .tmp v o) (hi : i < e.length) : Grow H ω H (MP.rl ω (setT i)) ∧ Rel c (MP.rl ω (setT i)) (σ.set i (some v)) H (putO e i o) :=
  ⟨Grow.rl fun _ _ => rfl, Rel.put (Rel.rl (ρ := setT i) R fun _ _ => rfl) (RepO.rl (ρ := setT i) h fun _ => rfl) hi⟩
theorem set_io {i j : Nat} {v : V} (h : i ≠ j) : (σ.set i (some v))[j]? = σ[j]? := List.getElem?_set_ne h
theorem sndS_set {i : Nat} {st : Stmt} (hio : i ∉ io) (h : PS X st (tAsg (TO c (ev C m)) (gName i))) : PS X st (TSm c io (evS C (.set i m))) := PS.imp h fun D σ H ⟨ω, e, r, e', R, hf, q⟩ => by
  unfold evS at hf
  obtain ⟨⟨o, e1⟩, h1, hf⟩ := Option.bind_eq_some_iff.mp hf
  split at hf
  case isFalse => cases hf
  next hi =>
  cases hf
  refine ⟨ω, e, o, e1, R, h1, fun ω1 H1 v g1 R1 rep => ?_⟩
  obtain ⟨g2, R2⟩ := R1.take rep hi
  exact q _ H1 _ (g1.trans g2) R2 fun j hj => set_io fun z => hio (z ▸ hj)
/-- pattern = value -/
theorem sndS_unp {tg : Tg} {etg : Expr} (hio : ∀ j ∈ io, j ∉ tgs tg) (he : PE X ex (TD c fun e => lift (ev C m e))) (hg : PG X etg (TGm c tg)) (hs : swapsWithSole [etg] ex pos.line X.env = pure false) (hw : swappedStores [etg] ex X.env = pure none)
    (h1 : (assignEach [etg] X.env).map (·.2) = [assign etg X.env]) : PS X (.Assign [etg] ex pos) (TSm c io (evS C (.unp tg m))) := PS.imp (ps_asg he hg hs hw h1) fun D σ H ⟨ω, e, r, e', R, hf, q⟩ => by
  unfold evS at hf
  obtain ⟨⟨d, e1⟩, h1, hf⟩ := Option.bind_eq_some_iff.mp hf
  obtain ⟨e2, h2, hf⟩ := Option.map_eq_some_iff.mp hf
  cases hf
  exact ⟨ω, e, d, e1, R, h1, fun ω1 H1 v g1 R1 hv => ⟨ω1, e1, d, _, R1, hv, h2, fun σ' R2 k2 => q ω1 H1 σ' g1 R2 fun j hj => k2 j (hio j hj)⟩⟩
/-! ### a list of one's own is written -/
theorem lstAt_some {i : Nat} {xs : List MP.D} (h : lstAt e i = some xs) : e[i]? = some (some (.b (.lst xs))) := by
  unfold lstAt at h
  split at h
  · next ys hy => cases h; exact hy
  · cases h
theorem own_lst {i : Nat} {xs : List MP.D} (R : Rel c ω σ H e) (h : lstAt e i = some xs) : ∃ p vs, σ[i]? = some (some (.ref p)) ∧ H p = some (.lst vs) ∧ ω p = some (.sl i, none) ∧ FzL c.K (fr H ω) xs vs := by
  obtain ⟨v, h1, p, vs, rfl, h2, h3, h4⟩ := R.slot i _ (lstAt_some h)
  exact ⟨p, vs, h1, h2, h3, h4⟩
theorem Rel.updSl {i : Nat} {p : Addr} {ys : List MP.D} {ws : List V} (R : Rel c ω σ H e) (hi : i < e.length) (hσ : σ[i]? = some (some (.ref p))) (hp : ω p = some (.sl i, none)) (hd : FzL c.K (fr H ω) ys ws) :
    Grow H ω (upd H p (.lst ws)) ω ∧ Rel c ω σ (upd H p (.lst ws)) (putO e i (.b (.lst ys))) := by
  have up : Up (fr H ω) (fr (upd H p (.lst ws)) ω) := fun a o h n => by
    obtain ⟨h1, h2⟩ := fr_some.mp h
    exact fr_some.mpr ⟨h1, by rw [upd_ne (fun z => by rw [z, hp] at h1; cases h1)]; exact h2⟩
  have G : Grow H ω (upd H p (.lst ws)) ω := by
    refine ⟨fun a o h q n => ?_, fun a ps h => ?_, fun _ _ _ _ => rfl⟩
    · rw [upd_ne (fun z => by rw [z, hp] at q; exact q)]
      exact h
    · obtain ⟨o', h1, h2⟩ := R.own p _ hp
      refine ⟨ps, ?_⟩
      rw [upd_ne (fun z => by rw [z, h1] at h; cases h; exact h2)]
      exact h
  refine ⟨G, by unfold putO; rw [R.len, List.length_set], fun j o h => ?_, fun P hP => ?_, fun a l h => ?_⟩
  · unfold putO at h
    by_cases z : j = i
    · subst z
      rw [List.getElem?_set, if_pos rfl, if_pos hi] at h
      cases h
      exact ⟨_, hσ, p, ws, rfl, upd_same, hp, FzL.up up _ _ hd⟩
    · rw [List.getElem?_set_ne (Ne.symm z)] at h
      obtain ⟨u, h1, h2⟩ := R.slot j o h
      refine ⟨u, h1, h2.grow up fun a o f e1 e2 => ⟨?_, e2⟩⟩
      rw [upd_ne (fun y => by rw [y, hp] at e2; cases e2; exact z rfl)]
      exact e1
  · obtain ⟨⟨ps, h1, h3⟩, h2⟩ := R.tab P hP
    exact ⟨⟨ps, by rw [upd_ne (fun z => by rw [z, hp] at h2; cases h2)]; exact h1, h3⟩, h2⟩
  · by_cases z : a = p
    · exact ⟨.lst ws, by rw [z]; exact upd_same, trivial⟩
    · obtain ⟨o, h1, h2⟩ := R.own a l h
      exact ⟨o, by rw [upd_ne z]; exact h1, h2⟩
theorem ixN_lt {n : Nat} {k : Int} {j : Nat} (h : ixN n k = some j) : j < n := (ixN_seq h).2.1
variable {mi : M} {ix : Expr} {i : Nat} {x : Str} {px p2 : Pos}
theorem lt_of_lst {xs : List MP.D} (h : lstAt e i = some xs) : i < e.length := (List.getElem?_eq_some_iff.mp (lstAt_some h)).1
theorem some_lst (h : (lstAt e i).isSome = true) : ∃ xs, lstAt e i = some xs := Option.isSome_iff_exists.mp h
theorem intOf_some {d : MP.D} {k : Int} (h : intOf d = some k) : d = .int k := by
  cases d with
  | int i => cases h; rfl
  | _ => cases h
theorem sndS_seti (hN : X.N[i]? = some x) (hv : Vis X.env.scope x) (hd : (x == ("__debug__" : Str)) = false) (hcd : (x == ("__classdict__" : Str)) = false) (he : PE X ex (TD c fun e => lift (ev C m e))) (hi : PE X ix (TD c fun e => lift (ev C mi e)))
    (ha : ∀ v, assign (.Subscript (.Name x px) ix p2) X.env v = (do
      let ov ← holding [v] (eval (.Name x px) X.env)
      let iv ← holding [v, ov] (eval ix X.env)
      standAt p2
      holding [v, ov, iv] (setItem ov iv v)
      release [v, ov, iv] []))
    (hs : swapsWithSole [.Subscript (.Name x px) ix p2] ex pos.line X.env = pure false) : PS X (.Assign [.Subscript (.Name x px) ix p2] ex pos) (TSm c io (evS C (.seti i mi m))) :=
  PS.imp (ps_asg he (pg_sub (pe_var hN hv hd hcd) hi set_list ha) hs (by rfl) (by rfl)) fun D σ H ⟨ω, e, r, e', R, hf, q⟩ => by
    unfold evS at hf
    split at hf
    case isFalse => cases hf
    next h0 =>
    obtain ⟨xs0, hx0⟩ := some_lst h0
    obtain ⟨p, vs0, hσ, _⟩ := own_lst R hx0
    obtain ⟨⟨d, e1⟩, h1, hf⟩ := Option.bind_eq_some_iff.mp hf
    obtain ⟨⟨di, e2⟩, h2, hf⟩ := Option.bind_eq_some_iff.mp hf
    obtain ⟨xs, h3, hf⟩ := Option.bind_eq_some_iff.mp hf
    obtain ⟨k, h4, hf⟩ := Option.bind_eq_some_iff.mp hf
    obtain ⟨j, h5, hf⟩ := Option.map_eq_some_iff.mp hf
    cases hf
    refine ⟨ω, e, d, e1, R, h1, fun ω1 H1 v g1 R1 hv => ⟨_, hσ, ω1, e1, di, e2, R1, h2, fun ω2 H2 w g2 R2 hw => ?_⟩⟩
    obtain ⟨p', vs, hσ', hH, hω, hl⟩ := own_lst R2 h3
    rw [hσ] at hσ'
    cases hσ'
    have := intOf_some h4
    subst this
    obtain ⟨g3, R3⟩ := R2.updSl (lt_of_lst h3) hσ hω (FzL.set (Fz.up g2.up _ _ hv) j hl)
    exact ⟨p, vs, k, j, rfl, hw, hH, by rw [hl.length]; exact h5, q ω2 _ σ ((g1.trans g2).trans g3) R3 fun _ _ => rfl⟩
/-- xs[i], by values -/
def rGetL (K : PySem.W.Frag) : V → V → Hp → VK → Prop := fun o i H Q => ∃ p xs k v, o = .ref p ∧ i = .int k ∧ SqL K H p xs ∧ atI xs k = some v ∧ Q v H
theorem get_list : PGet X (rGetL X.K) := by
  intro pins s σ H x y v u Q I rx ry h
  obtain ⟨p, xs, i, z, rfl, rfl, hq, he, q⟩ := h
  cases rx
  obtain ⟨t, rfl⟩ := ry
  obtain ⟨its, r, pl, hz⟩ := I.list hq
  obtain ⟨j, h1, h2, h3, h4, h5⟩ := L2.atI_get he
  obtain ⟨w, ew, rw'⟩ := r.get h2
  have hl := r.length
  have hn := line63
  have fin : EP X pins σ Q w s := ⟨z, H, I, rw', q⟩
  by_cases h0 : 0 ≤ i
  · have hj : i.toNat = j := by
      rw [seqIndex_of h0 h5] at h1
      exact Option.some.inj h1
    exact wpAny_getItem_list pl.isList h0 (by omega) (by rw [hj]; simpa using ew) fin
  · have hj : (i + (its.toArray.size : Int)).toNat = j := by
      rw [seqIndex_neg (by omega) h4] at h1
      rw [List.size_toArray, ← hl]
      exact Option.some.inj h1
    exact wpAny_getItem_list_neg pl.isList (by omega) (by rw [List.size_toArray] <;> omega) (by omega) (by rw [hj]; simpa using ew) fin
def isAug : Bop → Bool
  | .add => true | .sub => true | _ => false
def rAug : Bop → TIp
  | .add => ipI fun i j => i + j
  | .sub => ipI fun i j => i - j
  | _ => fun _ _ _ _ => False
theorem ip_aug {o : Bop} (h : isAug o = true) : PIp X (opOf o) (rAug o) := by
  cases o with
  | add => exact ip_add
  | sub => exact ip_sub
  | _ => cases h
theorem aug_ok {o : Bop} {a b z : MP.D} {x y : V} {Q : VK} (h : augD o a b = some z) (hx : Fz c.K (fr H ω) a x) (hy : Fz c.K (fr H ω) b y) (k : ∀ v, Fz c.K (fr H ω) z v → Q v H) : rAug o x y H Q := by
  unfold augD at h
  split at h
  · cases h
    exact ⟨_, _, hx, hy, k _ rfl⟩
  · cases h
    exact ⟨_, _, hx, hy, k _ rfl⟩
  · cases h
theorem sndS_augi {o : Bop} (hK : X.K = c.K) (ho : isAug o = true) (hN : X.N[i]? = some x) (hv : Vis X.env.scope x) (hd : (x == ("__debug__" : Str)) = false) (hcd : (x == ("__classdict__" : Str)) = false) (he : PE X ex (TD c fun e => lift (ev C m e))) (hi : PE X ix (TD c fun e => lift (ev C mi e)))
    (ha : ∀ ov iv new, augStore ix ov iv new = (do holding [new, ov, iv] (setItem ov iv new); release [new, ov, iv] []; pure .next)) : PS X (.AugAssign (.Subscript (.Name x px) ix p2) (opOf o) ex pos) (TSm c io (evS C (.augi i o mi m))) :=
  PS.imp (ps_augS (pe_var hN hv hd hcd) hi get_list he (ip_aug ho) set_list ha) fun D σ H ⟨ω, e, r, e', R, hf, q⟩ => by
    unfold evS at hf
    split at hf
    case isFalse => cases hf
    next h0 =>
    obtain ⟨xs0, hx0⟩ := some_lst h0
    obtain ⟨p, vs0, hσ, _⟩ := own_lst R hx0
    obtain ⟨⟨di, e1⟩, h1, hf⟩ := Option.bind_eq_some_iff.mp hf
    obtain ⟨xs, h3, hf⟩ := Option.bind_eq_some_iff.mp hf
    obtain ⟨k, h4, hf⟩ := Option.bind_eq_some_iff.mp hf
    obtain ⟨old, h5, hf⟩ := Option.bind_eq_some_iff.mp hf
    obtain ⟨⟨d, e2⟩, h6, hf⟩ := Option.bind_eq_some_iff.mp hf
    obtain ⟨ys, h7, hf⟩ := Option.bind_eq_some_iff.mp hf
    obtain ⟨z, h8, hf⟩ := Option.bind_eq_some_iff.mp hf
    obtain ⟨j, h9, hf⟩ := Option.map_eq_some_iff.mp hf
    cases hf
    refine ⟨_, hσ, ω, e, di, e1, R, h1, fun ω1 H1 w g1 R1 hw => ?_⟩
    obtain ⟨p', vs, hσ', hH, hω, hl⟩ := own_lst R1 h3
    rw [hσ] at hσ'
    cases hσ'
    have := intOf_some h4
    subst this
    obtain ⟨v, h10, h11⟩ := MP.atI_get hl h5
    rw [hK]
    refine ⟨p, vs, k, v, rfl, hw, .inl (.inl hH), h10, ω1, e1, d, e2, R1, h6, fun ω2 H2 u g2 R2 hu => ?_⟩
    refine aug_ok h8 (Fz.up g2.up _ _ h11) hu fun zv hz => ?_
    obtain ⟨p', ws, hσ', hH2, hω2, hl2⟩ := own_lst R2 h7
    rw [hσ] at hσ'
    cases hσ'
    obtain ⟨g3, R3⟩ := R2.updSl (lt_of_lst h7) hσ hω2 (FzL.set hz j hl2)
    exact ⟨p, ws, k, j, rfl, hw, hH2, by rw [hl2.length]; exact h9, q ω2 _ σ ((g1.trans g2).trans g3) R3 fun _ _ => rfl⟩
theorem sndS_aug {o : Bop} (hio : i ∉ io) (ho : isAug o = true) (hN : X.N.Nodup) (hi : X.N[i]? = some x) (hx : Loc X.env.scope x) (hf : X.fn x = true ∨ X.env.scope.names.lookup x = some .local) (he : PE X ex (TD c fun e => lift (ev C m e))) :
    PS X (.AugAssign (.Name x px) (opOf o) ex pos) (TSm c io (evS C (.aug i o m))) :=
  PS.imp (ps_aug hN hi hx he (ip_aug ho) hf) fun D σ H ⟨ω, e, r, e', R, hf, q⟩ => by
    unfold evS at hf
    obtain ⟨y, h1, hf⟩ := Option.bind_eq_some_iff.mp hf
    obtain ⟨⟨d, e1⟩, h2, hf⟩ := Option.bind_eq_some_iff.mp hf
    obtain ⟨z, h3, hf⟩ := Option.map_eq_some_iff.mp hf
    cases hf
    have hy : e[i]? = some (some (dat y)) := by
      unfold getV at h1
      split at h1
      · next y' hy => cases h1; exact hy
      · cases h1
    obtain ⟨v, h4, h5⟩ := R.slot i _ hy
    have h5 : Fz c.K (fr H ω) y v := h5
    refine ⟨v, h4, ω, e, d, e1, R, h2, fun ω1 H1 u g1 R1 hu => ?_⟩
    refine aug_ok h3 (Fz.up g1.up _ _ h5) hu fun zv hz => ?_
    have hlt : i < e1.length := by
      rw [← R1.len]
      exact (List.getElem?_eq_some_iff.mp h4).1
    exact q ω1 H1 _ g1 (R1.put (o := dat z) hz hlt) fun j hj => set_io fun y => hio (y ▸ hj)
/-- xs.append(e) -/
theorem sndS_app {p3 p4 : Pos} (hK : X.K = c.K) (hN : X.N[i]? = some x) (hv : Vis X.env.scope x) (hd : (x == ("__debug__" : Str)) = false) (hcd : (x == ("__classdict__" : Str)) = false) (he : PE X ex (TD c fun e => lift (ev C m e))) (hl : (p3.endLine == p4.line) = true)
    (hst : starEach [ex] X.env = (false, eval ex X.env) :: starEach [] X.env) : PS X (.Expr (.Call (.Attribute (.Name x px) "append" p3) [ex] [] p4) pos) (TSm c io (evS C (.app i m))) :=
  PS.imp (ps_expr (pe_bm F.plainAttrs_list F.slot_list_append F.type_list_append mt_append (pe_var hN hv hd hcd) (pa_cons he pa_nil hst) (by rfl) (by rw [hst]; rfl) hl hst) (by rfl)) fun D σ H ⟨ω, e, r, e', R, hf, q⟩ => by
    unfold evS at hf
    split at hf
    case isFalse => cases hf
    next h0 =>
    obtain ⟨xs0, hx0⟩ := some_lst h0
    obtain ⟨p, vs0, hσ, hH0, _⟩ := own_lst R hx0
    obtain ⟨⟨d, e1⟩, h1, hf⟩ := Option.bind_eq_some_iff.mp hf
    obtain ⟨xs, h3, hf⟩ := Option.bind_eq_some_iff.mp hf
    split at hf
    case isFalse => cases hf
    next hz =>
    cases hf
    refine ⟨_, hσ, .inl ⟨rfl, vs0, .inl (.inl hH0)⟩, ω, e, d, e1, R, h1, fun ω1 H1 v g1 R1 hv => ?_⟩
    obtain ⟨p', vs, hσ', hH, hω, hl⟩ := own_lst R1 h3
    rw [hσ] at hσ'
    cases hσ'
    obtain ⟨g3, R3⟩ := R1.updSl (lt_of_lst h3) hσ hω (FzL.append (es := [d]) (ws := [v]) hl ⟨v, [], rfl, hv, rfl⟩)
    exact ⟨p, vs, v, rfl, rfl, hH, by rw [hl.length]; exact hz, q ω1 _ σ (g1.trans g3) R3 fun _ _ => rfl⟩
end
end MP
set_option linter.all false
set_option maxRecDepth 100000
set_option maxHeartbeats 1000000
/-! Loops, several names at once. -/
namespace MP
open PySem PySem.Spec PyProof.Rows L2 GxR
section
variable {c : Cn} {io : List Nat} {X : Cx} {C : CallF} {m : M} {ms : Ms} {ss : Ss} {sts : List Stmt} {ex a : Expr} {pos : Pos} {σ : L2.St} {H : Hp} {ω : Om} {e : Env'} {D : Ends}
theorem sndS_for {tg iter : Expr} {tgm : Tg} {it : Itm} (hp : PassesOwn (model X.prog X.w) X.A X.env X.xe) (hc : X.calm = true) (hio : ∀ j ∈ io, j ∉ tgs tgm) (hi : PI X tg iter (TIt c (evi C it))) (hg : PG X tg (TGm c tgm)) (hb : PSs X sts (TSm c io (evSs C ss)))
    (hs : ∀ x, foldedSetIterable iter X.env x = pure x) : PS X (.For tg iter sts [] pos) (TSm c io (evS C (.forr tgm it ss))) :=
  PS.imp (ps_for hp hc hi hg hb hs) fun D σ H ⟨ω, e, r, e', R, hf, q⟩ => by
    unfold evS at hf
    obtain ⟨⟨xs, e1⟩, h1, hf⟩ := Option.bind_eq_some_iff.mp hf
    refine ⟨ω, e, xs, e1, R, h1, fun ω1 H1 J g1 R1 run => ?_⟩
    let P : Nat → L2.St → Hp → Prop := fun i σ' H' => ∃ ω e, Grow H1 ω1 H' ω ∧ Rel c ω σ' H' e ∧ (∀ j ∈ io, σ'[j]? = σ[j]?) ∧ forLoop (fun x e => (bind tgm x e).bind fun e' => evSs C ss e') (xs.drop i) e = some (r, e')
    refine ⟨fun i m σ' H' => m = xs.length - i ∧ i ≤ xs.length ∧ P i σ' H', ⟨xs.length, by simp, Nat.zero_le _, ω1, e1, Grow.refl, R1, fun _ _ => rfl, hf⟩, ?_⟩
    rintro i m σ2 H2 ⟨rfl, hi, ω2, e2, g2, R2, k2, hl⟩
    obtain ⟨rgo, rstop⟩ := run ω2 H2 g2.up
    by_cases hlt : i < xs.length
    · have hd : xs[i]? = some xs[i] := List.getElem?_eq_getElem hlt
      obtain ⟨go, step⟩ := rgo i _ hd
      rw [List.drop_eq_getElem_cons hlt] at hl
      unfold forLoop at hl
      obtain ⟨⟨f, e3⟩, h3, hl⟩ := Option.bind_eq_some_iff.mp hl
      obtain ⟨e4, h4, h3⟩ := Option.bind_eq_some_iff.mp h3
      refine .inr ⟨go, P (i + 1), fun σ' H' p => ⟨xs.length - (i + 1), by omega, rfl, hlt, p⟩, fun x H' yl => ?_⟩
      obtain ⟨ω3, g3, fz, tr⟩ := step x H' yl
      refine ⟨ω3, _, _, e4, tr _ _ R2, fz, h4, fun σ' R4 k4 => ⟨ω3, e4, f, e3, R4, h3, fun ω5 H5 σ5 g5 R5 k5 => ?_⟩⟩
      have kk : ∀ j ∈ io, σ5[j]? = σ[j]? := fun j hj => ((k5 j hj).trans (k4 j (hio j hj))).trans (k2 j hj)
      have gg := (g2.trans g3).trans g5
      cases f with
      | nx => exact ⟨ω5, e3, gg, R5, kk, hl⟩
      | ct => exact ⟨ω5, e3, gg, R5, kk, hl⟩
      | bk => cases hl; exact q ω5 H5 σ5 (g1.trans gg) R5 kk
      | rt o => cases hl; exact q ω5 H5 σ5 (g1.trans gg) R5 kk
    · have hi' : i = xs.length := by omega
      subst hi'
      rw [List.drop_length] at hl
      unfold forLoop at hl
      cases hl
      exact .inl ⟨rstop, q ω2 H2 σ2 (g1.trans g2) R2 k2⟩
theorem whl'_some {t : Env' → Option (Bool × Env')} {b : Env' → Out} {e : Env'} {r : Fl × Env'} (h : whl' t b e = some r) : ∃ n, whlLoop t b n e = some r := by
  classical
  unfold whl' at h
  split at h
  · exact ⟨_, h⟩
  · cases h
theorem sndS_whl {c0 : Expr} (hp : PassesOwn (model X.prog X.w) X.A X.env X.xe) (hc : PT X c0 (TT' c (tst C m))) (hb : PSs X sts (TSm c io (evSs C ss))) : PS X (.While c0 sts [] pos) (TSm c io (evS C (.whl m ss))) :=
  PS.imp (ps_while hp hc hb) fun D σ H ⟨ω, e, r, e', R, hf, q⟩ => by
    unfold evS at hf
    obtain ⟨n, hn⟩ := whl'_some hf
    let P : Nat → L2.St → Hp → Prop := fun n σ' H' => ∃ ω1 e1, Grow H ω H' ω1 ∧ Rel c ω1 σ' H' e1 ∧ (∀ j ∈ io, σ'[j]? = σ[j]?) ∧ whlLoop (tst C m) (evSs C ss) n e1 = some (r, e')
    refine ⟨P, ⟨n, ω, e, Grow.refl, R, fun _ _ => rfl, hn⟩, ?_⟩
    rintro n σ1 H1 ⟨ω1, e1, g1, R1, k1, hl⟩
    cases n with
    | zero => unfold whlLoop at hl; cases hl
    | succ n =>
      unfold whlLoop at hl
      obtain ⟨⟨b, e2⟩, h2, hl⟩ := Option.bind_eq_some_iff.mp hl
      refine ⟨ω1, e1, b, e2, R1, h2, fun ω2 H2 g2 R2 => ?_⟩
      cases b with
      | true =>
        rw [if_pos rfl] at hl ⊢
        obtain ⟨⟨f, e3⟩, h3, hl⟩ := Option.bind_eq_some_iff.mp hl
        refine ⟨P n, fun σ' H' p => ⟨n, Nat.lt_succ_self n, p⟩, ω2, e2, f, e3, R2, h3, fun ω3 H3 σ3 g3 R3 k3 => ?_⟩
        have gg := (g1.trans g2).trans g3
        have kk : ∀ j ∈ io, σ3[j]? = σ[j]? := fun j hj => (k3 j hj).trans (k1 j hj)
        cases f with
        | nx => exact ⟨ω3, e3, gg, R3, kk, hl⟩
        | ct => exact ⟨ω3, e3, gg, R3, kk, hl⟩
        | bk => cases hl; exact q ω3 H3 σ3 gg R3 kk
        | rt o => cases hl; exact q ω3 H3 σ3 gg R3 kk
      | false =>
        rw [if_neg Bool.false_ne_true] at hl ⊢
        cases hl
        exact q ω2 H2 σ1 (g1.trans g2) R2 k1
/-! ### a, b = x, y: values set aside -/
def FlyB (c : Cn) (H0 : Hp) (ω0 : Om) (H : Hp) (ω : Om) (v : V) : O → Prop
  | .b (.d x) => Fz c.K (fr H ω) x v
  | .b b => RepB c H ω (.fly 0, none) v b ∧ ∀ a, v = .ref a → ∀ o, H0 a = some o → ¬ Prot (ω0 a)
  | .ins _ _ => False
def FlyL (c : Cn) (H0 : Hp) (ω0 : Om) (H : Hp) (ω : Om) : List O → List V → Prop
  | [], vs => vs = []
  | o :: os, vs => ∃ v r, vs = v :: r ∧ FlyB c H0 ω0 H ω v o ∧ (∀ a, v = .ref a → ∀ (j : Nat) o', os[j]? = some o' → r[j]? = some (.ref a) → ∃ x, o' = dat x ∨ o = dat x) ∧ FlyL c H0 ω0 H ω os r
def noInsL : List O → Bool
  | [] => true
  | o :: r => noIns o && noInsL r
def TF (c : Cn) (f : Sv (List O)) : TA := fun σ H Q => ∃ ω e os e', Rel c ω σ H e ∧ f e = some (os, e') ∧ noInsL os = true ∧ ∀ ω' H' vs, Grow H ω H' ω' → Rel c ω' σ H' e' → FlyL c H ω H' ω' os vs → Q vs H'
theorem sndO_nil : PA X [] (TF c (evOs C .nil)) := PA.imp pa_nil fun σ H Q ⟨ω, e, os, e', R, hf, _, q⟩ => by
  unfold evOs at hf
  cases hf
  exact q ω H [] Grow.refl R rfl
/-- where a value lies, if it is owned -/
theorem FlyL.older {H0 H1 H : Hp} {ω0 ω1 ω : Om} (g : Grow H0 ω0 H1 ω1) : ∀ {os : List O} {vs : List V}, FlyL c H1 ω1 H ω os vs → FlyL c H0 ω0 H ω os vs
  | [], vs, h => h
  | o :: os, vs, ⟨v, r, e1, h1, h2, h3⟩ => by
    refine ⟨v, r, e1, ?_, h2, FlyL.older g h3⟩
    cases o with
    | ins C fs => exact h1
    | b x =>
      have old : (∀ a, v = .ref a → ∀ o, H1 a = some o → ¬ Prot (ω1 a)) → ∀ a, v = .ref a → ∀ o, H0 a = some o → ¬ Prot (ω0 a) := fun k a e o h p => by
        by_cases n : noTbl o
        · exact k a e o (g.keep a o h p n) (by rw [g.lab a o h p]; exact p)
        · obtain ⟨ps, rfl⟩ := noTbl_of n
          obtain ⟨ps', h'⟩ := g.tbl a ps h
          exact k a e _ h' (by rw [g.lab a _ h p]; exact p)
      cases x with
      | d y => exact h1
      | lst xs => exact ⟨h1.1, old h1.2⟩
      | dct xs => exact ⟨h1.1, old h1.2⟩
theorem owned_ref {H : Hp} {ω : Om} {l : Lb} {v : V} {b : B} (h : RepB c H ω l v b) (hb : ∀ x, b ≠ .d x) : ∃ a o, v = .ref a ∧ H a = some o ∧ ω a = some l ∧ noTbl o := by
  cases b with
  | d x => exact absurd rfl (hb x)
  | lst xs => obtain ⟨a, vs, e1, e2, e3, _⟩ := h; exact ⟨a, _, e1, e2, e3, fun ps z => by cases z⟩
  | dct xs => obtain ⟨a, vs, e1, e2, e3, _⟩ := h; exact ⟨a, _, e1, e2, e3, fun ps z => by cases z⟩
/-- the value at a set aside -/
def flyAt (ω : Om) (a : Addr) : Om := fun b => if b = a then some (.fly 0, none) else ω b
theorem rel_flyAt {a : Addr} {l : Lb} {v : V} {b : B} (R : Rel c ω σ H e) (h : RepB c H ω (.tmp, none) v b) (hv : v = .ref a) (hb : ∀ x, b ≠ .d x) : Rel c (flyAt ω a) σ H e ∧ Up (fr H ω) (fr H (flyAt ω a)) ∧ RepB c H (flyAt ω a) (.fly 0, none) v b := by
  obtain ⟨a', o, e1, e2, e3, e4⟩ := owned_ref h hb
  rw [hv] at e1
  cases e1
  have up : Up (fr H ω) (fr H (flyAt ω a)) := fun x o h n => by
    obtain ⟨h1, h2⟩ := fr_some.mp h
    have ne : x ≠ a := fun z => by rw [z, e3] at h1; cases h1
    exact fr_some.mpr ⟨(if_neg ne).trans h1, h2⟩
  refine ⟨⟨R.len, fun i o h => ?_, fun P hP => ⟨(R.tab P hP).1, ?_⟩, fun x l h => ?_⟩, up, ?_⟩
  · obtain ⟨u, h1, h2⟩ := R.slot i o h
    refine ⟨u, h1, h2.grow up fun x o f k1 k2 => ⟨k1, ?_⟩⟩
    have ne : x ≠ a := fun z => by rw [z, e3] at k2; cases k2
    exact (if_neg ne).trans k2
  · have k := (R.tab P hP).2
    have ne : P ≠ a := fun z => by rw [z, e3] at k; cases k
    exact (if_neg ne).trans k
  · by_cases z : x = a
    · exact R.own x (.tmp, none) (by rw [z]; exact e3)
    · exact R.own x l ((if_neg z).symm.trans h)
  · cases b with
    | d x => exact absurd rfl (hb x)
    | lst xs =>
      obtain ⟨a', vs, k1, k2, k3, k4⟩ := h
      rw [hv] at k1
      cases k1
      exact ⟨a, vs, hv, k2, if_pos rfl, FzL.up up _ _ k4⟩
    | dct xs =>
      obtain ⟨a', vs, k1, k2, k3, k4⟩ := h
      rw [hv] at k1
      cases k1
      exact ⟨a, vs, hv, k2, if_pos rfl, FzK.up up _ _ k4⟩
theorem sndO_cons {es : List Expr} (ha : PE X a (TO c (ev C m))) (hr : PA X es (TF c (evOs C ms))) (hs : starEach (a :: es) X.env = (false, eval a X.env) :: starEach es X.env) : PA X (a :: es) (TF c (evOs C (.cons m ms))) :=
  PA.imp (pa_cons ha hr hs) fun σ H Q ⟨ω, e, os, e', R, hf, hni, q⟩ => by
    unfold evOs at hf
    obtain ⟨⟨o, e1⟩, h1, hf⟩ := Option.bind_eq_some_iff.mp hf
    obtain ⟨⟨os', e2⟩, h2, hf⟩ := Option.map_eq_some_iff.mp hf
    cases hf
    have hni : (noIns o && noInsL os') = true := hni
    rw [Bool.and_eq_true] at hni
    refine ⟨ω, e, o, e1, R, h1, fun ω1 H1 v g1 R1 rep => ?_⟩
    cases o with
    | ins C' fs => cases hni.1
    | b x =>
      have dcase : ∀ y, x = .d y → TF c (evOs C ms) σ H1 fun xs H2 => Q (v :: xs) H2 := fun y hy => by
        subst hy
        refine ⟨ω1, e1, os', _, R1, h2, hni.2, fun ω2 H2 vs g2 R2 fl => q ω2 H2 _ (g1.trans g2) R2 ⟨v, vs, rfl, Fz.up g2.up _ _ (show Fz c.K (fr H1 ω1) y v from rep), fun a e j o' h3 h4 => ⟨y, .inr rfl⟩, fl.older g1⟩⟩
      have ocase : (∀ y, x ≠ .d y) → TF c (evOs C ms) σ H1 fun xs H2 => Q (v :: xs) H2 := fun hx => by
        obtain ⟨a0, ob, e3, e4, e5, e6⟩ := owned_ref (show RepB c H1 ω1 (.tmp, none) v x from rep) hx
        obtain ⟨R1', up, rep'⟩ := rel_flyAt (l := (.tmp, none)) R1 (show RepB c H1 ω1 (.tmp, none) v x from rep) e3 hx
        have young : ∀ o, H a0 = some o → ¬ Prot (ω a0) := fun o h p => by
          have k := g1.lab a0 o h p
          rw [e5] at k
          rw [← k] at p
          exact p
        have g1' : Grow H ω H1 (flyAt ω1 a0) := ⟨g1.keep, g1.tbl, fun b o h p => by
          have ne : b ≠ a0 := fun z => young o (z ▸ h) (z ▸ p)
          exact (if_neg ne).trans (g1.lab b o h p)⟩
        refine ⟨flyAt ω1 a0, e1, os', _, R1', h2, hni.2, fun ω2 H2 vs g2 R2 fl => q ω2 H2 _ (g1'.trans g2) R2 ⟨v, vs, rfl, ?_, fun a e j o' h3 h4 => ?_, fl.older g1'⟩⟩
        · have p0 : Prot (flyAt ω1 a0 a0) := by unfold flyAt; rw [if_pos rfl]; trivial
          have l0 : flyAt ω1 a0 a0 = some (.fly 0, none) := if_pos rfl
          have kp : RepB c H2 ω2 (.fly 0, none) v x := rep'.grow g2.up fun b o k1 k2 => by
            have pb : Prot (flyAt ω1 a0 b) := by rw [k2]; trivial
            obtain ⟨o2, k3, k4⟩ := R1'.own b _ k2
            rw [k1] at k3
            cases k3
            exact ⟨g2.keep b o k1 pb (fun ps z => by rw [z] at k4; exact k4), (g2.lab b o k1 pb).trans k2⟩
          have yg : ∀ a, v = .ref a → ∀ o, H a = some o → ¬ Prot (ω a) := fun a ea o h p => by
            rw [e3] at ea
            cases ea
            exact young o h p
          cases x with
          | d y => exact absurd rfl (hx y)
          | lst xs => exact ⟨kp, yg⟩
          | dct xs => exact ⟨kp, yg⟩
        · -- a later value lies elsewhere
          rw [e3] at e
          cases e
          have : ∀ {os : List O} {vs : List V} {j : Nat} {o' : O}, FlyL c H1 (flyAt ω1 a0) H2 ω2 os vs → os[j]? = some o' → vs[j]? = some (.ref a0) → ∃ x, o' = dat x := fun {os} => by
            induction os with
            | nil => intro vs j o' _ h; simp at h
            | cons o os ih =>
              intro vs j o' fl h3 h4
              obtain ⟨v1, r1, k1, k2, _, k4⟩ := fl
              subst k1
              cases j with
              | succ j => exact ih k4 (by simpa using h3) (by simpa using h4)
              | zero =>
                simp at h3 h4
                subst h3 h4
                cases o with
                | ins _ _ => exact k2.elim
                | b x' =>
                  cases x' with
                  | d y => exact ⟨y, rfl⟩
                  | lst xs => exact absurd (show Prot (flyAt ω1 a0 a0) by unfold flyAt; rw [if_pos rfl]; trivial) (k2.2 a0 rfl ob e4)
                  | dct xs => exact absurd (show Prot (flyAt ω1 a0 a0) by unfold flyAt; rw [if_pos rfl]; trivial) (k2.2 a0 rfl ob e4)
          obtain ⟨y, hy⟩ := this fl h3 h4
          exact ⟨y, .inl hy⟩
      cases x with
      | d y => exact dcase y rfl
      | lst xs => exact ocase fun y z => nomatch z
      | dct xs => exact ocase fun y z => nomatch z

def slAt (ω : Om) (a : Addr) (i : Nat) : Om := fun b => if b = a then some (.sl i, none) else ω b
theorem fly_keep {H0 : Hp} {ω0 : Om} {a : Addr} {i : Nat} (up : Up (fr H ω) (fr H (slAt ω a i))) : ∀ {os : List O} {vs : List V}, FlyL c H0 ω0 H ω os vs → (∀ (j : Nat) o', os[j]? = some o' → vs[j]? = some (.ref a) → ∃ y, o' = dat y) → FlyL c H0 ω0 H (slAt ω a i) os vs
  | [], vs, h, _ => h
  | o :: os, vs, ⟨v, r, e1, h1, h2, h3⟩, k => by
    subst e1
    refine ⟨v, r, rfl, ?_, h2, fly_keep up h3 fun j o' p q => k (j + 1) o' (by simpa using p) (by simpa using q)⟩
    cases o with
    | ins C fs => exact h1
    | b x =>
      cases x with
      | d y => exact Fz.up up _ _ h1
      | lst xs =>
        obtain ⟨⟨a', ws, k1, k2, k3, k4⟩, h1⟩ := h1
        have ne : a' ≠ a := fun z => by
          obtain ⟨y, hy⟩ := k 0 _ rfl (by rw [k1, z]; rfl)
          cases hy
        exact ⟨⟨a', ws, k1, k2, (if_neg ne).trans k3, FzL.up up _ _ k4⟩, h1⟩
      | dct xs =>
        obtain ⟨⟨a', ws, k1, k2, k3, k4⟩, h1⟩ := h1
        have ne : a' ≠ a := fun z => by
          obtain ⟨y, hy⟩ := k 0 _ rfl (by rw [k1, z]; rfl)
          cases hy
        exact ⟨⟨a', ws, k1, k2, (if_neg ne).trans k3, FzK.up up _ _ k4⟩, h1⟩
/-- a value set aside comes to a slot -/
theorem flyPut {H0 : Hp} {ω0 : Om} {i : Nat} {o : O} {os : List O} {v : V} {vs : List V} (G : Grow H0 ω0 H ω) (R : Rel c ω σ H e) (hi : i < e.length) (fl : FlyL c H0 ω0 H ω (o :: os) (v :: vs)) :
    ∃ ω', Grow H0 ω0 H ω' ∧ Rel c ω' (σ.set i (some v)) H (putO e i o) ∧ FlyL c H0 ω0 H ω' os vs := by
  obtain ⟨v', r, e1, hb, hd, hr⟩ := fl
  cases e1
  cases o with
  | ins C fs => exact hb.elim
  | b x =>
    have dcase : ∀ y, x = .d y → ∃ ω', Grow H0 ω0 H ω' ∧ Rel c ω' (σ.set i (some v)) H (putO e i (.b x)) ∧ FlyL c H0 ω0 H ω' os vs := fun y hy => by
      subst hy
      exact ⟨ω, G, R.put (o := dat y) hb hi, hr⟩
    have ocase : (∀ y, x ≠ .d y) → (RepB c H ω (.fly 0, none) v x ∧ ∀ a, v = .ref a → ∀ o, H0 a = some o → ¬ Prot (ω0 a)) → ∃ ω', Grow H0 ω0 H ω' ∧ Rel c ω' (σ.set i (some v)) H (putO e i (.b x)) ∧ FlyL c H0 ω0 H ω' os vs := fun hx hb => by
      obtain ⟨a, ob, ev, eh, eω, nt⟩ := owned_ref hb.1 hx
      have up : Up (fr H ω) (fr H (slAt ω a i)) := fun b o h n => by
        obtain ⟨h1, h2⟩ := fr_some.mp h
        have ne : b ≠ a := fun z => by rw [z, eω] at h1; cases h1
        exact fr_some.mpr ⟨(if_neg ne).trans h1, h2⟩
      have R1 : Rel c (slAt ω a i) σ H e := by
        refine ⟨R.len, fun j o h => ?_, fun P hP => ⟨(R.tab P hP).1, ?_⟩, fun b l h => ?_⟩
        · obtain ⟨u, h1, h2⟩ := R.slot j o h
          refine ⟨u, h1, h2.grow up fun b o f k1 k2 => ⟨k1, ?_⟩⟩
          have ne : b ≠ a := fun z => by rw [z, eω] at k2; cases k2
          exact (if_neg ne).trans k2
        · have k := (R.tab P hP).2
          have ne : P ≠ a := fun z => by rw [z, eω] at k; cases k
          exact (if_neg ne).trans k
        · by_cases z : b = a
          · exact R.own b (.fly 0, none) (by rw [z]; exact eω)
          · exact R.own b l ((if_neg z).symm.trans h)
      have rep : RepB c H (slAt ω a i) (.sl i, none) v x := by
        have hb := hb.1
        cases x with
        | d y => exact absurd rfl (hx y)
        | lst xs =>
          obtain ⟨a', ws, k1, k2, k3, k4⟩ := hb
          rw [ev] at k1
          cases k1
          exact ⟨a, ws, ev, k2, if_pos rfl, FzL.up up _ _ k4⟩
        | dct xs =>
          obtain ⟨a', ws, k1, k2, k3, k4⟩ := hb
          rw [ev] at k1
          cases k1
          exact ⟨a, ws, ev, k2, if_pos rfl, FzK.up up _ _ k4⟩
      refine ⟨slAt ω a i, ⟨G.keep, G.tbl, fun b o h p => ?_⟩, R1.put (o := .b x) rep hi, fly_keep up hr fun j o' h1 h2 => ?_⟩
      · have ne : b ≠ a := fun z => hb.2 a ev o (z ▸ h) (z ▸ p)
        exact (if_neg ne).trans (G.lab b o h p)
      · obtain ⟨y, hy | hy⟩ := hd a ev j o' h1 h2
        · exact ⟨y, hy⟩
        · exact absurd (show x = .d y by cases hy; rfl) (hx y)
    cases x with
    | d y => exact dcase y rfl
    | lst xs => exact ocase (fun y z => nomatch z) hb
    | dct xs => exact ocase (fun y z => nomatch z) hb
theorem noInsL_of : ∀ {os : List O}, (∀ o ∈ os, noIns o = true) → noInsL os = true
  | [], _ => rfl
  | o :: os, h => by
    show (noIns o && noInsL os) = true
    rw [h o List.mem_cons_self, noInsL_of fun o' ho => h o' (List.mem_cons_of_mem _ ho)]
    rfl
theorem par_some {is : List Nat} {r : Fl} {e' : Env'} (hf : evS C (.par is ms) e = some (r, e')) : ∃ os e1, evOs C ms e = some (os, e1) ∧ os.length = is.length ∧ (∀ i ∈ is, i < e1.length) ∧ noInsL os = true ∧ r = .nx ∧ e' = putAll e1 is os := by
  unfold evS at hf
  obtain ⟨⟨os, e1⟩, h1, hf⟩ := Option.bind_eq_some_iff.mp hf
  split at hf
  · next z =>
    cases hf
    exact ⟨os, e1, h1, z.1, z.2.1, noInsL_of z.2.2, rfl, rfl⟩
  · cases hf
variable {b a3 : Expr} {x y z : Str} {px py pz pt : Pos} {kt k2 : Nat} {pt2 : Pos} {i j l : Nat}
theorem sndS_par2 (hc : X.calm = true) (hN : X.N.Nodup) (hi : X.N[i]? = some x) (hj : X.N[j]? = some y) (hij : i ≠ j) (hx : X.env.scope.names.lookup x = some .local) (hy : X.env.scope.names.lookup y = some .local) (hio : i ∉ io ∧ j ∉ io)
    (ha : PA X [a, b] (TF c (evOs C ms))) (hw : swappedStores [.Tuple [.Name x px, .Name y py] kt pt] (.Tuple [a, b] k2 pt2) X.env = pure (some [x, y])) :
    PS X (.Assign [.Tuple [.Name x px, .Name y py] kt pt] (.Tuple [a, b] k2 pt2) pos) (TSm c io (evS C (.par [i, j] ms))) :=
  PS.imp (ps_par hc hN hi hj hij hx hy ha hw) fun D σ H ⟨ω, e, r, e', R, hf, q⟩ => by
    obtain ⟨os, e1, h1, h2, h3, h4, rfl, rfl⟩ := par_some hf
    refine ⟨ω, e, os, e1, R, h1, h4, fun ω1 H1 vs g1 R1 fl => ?_⟩
    match os, h2, fl with
    | [o1, o2], _, fl =>
      obtain ⟨v, r, rfl, f1⟩ := id fl
      obtain ⟨_, _, w, r2, rfl, _, _, e5⟩ := f1
      cases (show r2 = [] from e5)
      obtain ⟨ω2, g2, R2, fl2⟩ := flyPut g1 R1 (h3 i (by simp)) fl
      obtain ⟨ω3, g3, R3, _⟩ := flyPut g2 R2 (by unfold putO; rw [List.length_set]; exact h3 j (by simp)) fl2
      have n1 : ∀ k ∈ io, i ≠ k := fun k hk z => hio.1 (by rw [z]; exact hk)
      have n2 : ∀ k ∈ io, j ≠ k := fun k hk z => hio.2 (by rw [z]; exact hk)
      exact ⟨v, w, rfl, q ω3 H1 _ g3 R3 fun k hk => (set_io (n2 k hk)).trans (set_io (n1 k hk))⟩
theorem sndS_par3 (hc : X.calm = true) (hN : X.N.Nodup) (hi : X.N[i]? = some x) (hj : X.N[j]? = some y) (hl : X.N[l]? = some z) (hij : i ≠ j) (hil : i ≠ l) (hjl : j ≠ l) (hx : X.env.scope.names.lookup x = some .local) (hy : X.env.scope.names.lookup y = some .local)
    (hz : X.env.scope.names.lookup z = some .local) (hio : i ∉ io ∧ j ∉ io ∧ l ∉ io) (ha : PA X [a, b, a3] (TF c (evOs C ms))) (hw : swappedStores [.Tuple [.Name x px, .Name y py, .Name z pz] kt pt] (.Tuple [a, b, a3] k2 pt2) X.env = pure (some [x, y, z])) :
    PS X (.Assign [.Tuple [.Name x px, .Name y py, .Name z pz] kt pt] (.Tuple [a, b, a3] k2 pt2) pos) (TSm c io (evS C (.par [i, j, l] ms))) :=
  PS.imp (ps_par3 hc hN hi hj hl hij hil hjl hx hy hz ha hw) fun D σ H ⟨ω, e, r, e', R, hf, q⟩ => by
    obtain ⟨os, e1, h1, h2, h3, h4, rfl, rfl⟩ := par_some hf
    refine ⟨ω, e, os, e1, R, h1, h4, fun ω1 H1 vs g1 R1 fl => ?_⟩
    match os, h2, fl with
    | [o1, o2, o3], _, fl =>
      obtain ⟨v, r, rfl, f1⟩ := id fl
      obtain ⟨_, _, w, r2, rfl, f2⟩ := f1
      obtain ⟨_, _, u, r3, rfl, _, _, e5⟩ := f2
      cases (show r3 = [] from e5)
      obtain ⟨ω2, g2, R2, fl2⟩ := flyPut g1 R1 (h3 i (by simp)) fl
      obtain ⟨ω3, g3, R3, fl3⟩ := flyPut g2 R2 (by unfold putO; rw [List.length_set]; exact h3 j (by simp)) fl2
      obtain ⟨ω4, g4, R4, _⟩ := flyPut g3 R3 (by unfold putO; rw [List.length_set, List.length_set]; exact h3 l (by simp)) fl3
      have n1 : ∀ k ∈ io, i ≠ k := fun k hk z => hio.1 (by rw [z]; exact hk)
      have n2 : ∀ k ∈ io, j ≠ k := fun k hk z => hio.2.1 (by rw [z]; exact hk)
      have n3 : ∀ k ∈ io, l ≠ k := fun k hk z => hio.2.2 (by rw [z]; exact hk)
      exact ⟨v, w, u, rfl, q ω4 H1 _ g4 R4 fun k hk => ((set_io (n3 k hk)).trans (set_io (n2 k hk))).trans (set_io (n1 k hk))⟩

/-! the same with names that are cells: the tuple is made, then taken apart -/
theorem FlyL.grow {H0 H' : Hp} {ω0 ω' : Om} (g : Grow H ω H' ω') (own : ∀ a l, ω a = some l → ∃ o, H a = some o ∧ Mut (some o)) : ∀ {os : List O} {vs : List V}, FlyL c H0 ω0 H ω os vs → FlyL c H0 ω0 H' ω' os vs
  | [], vs, h => h
  | o :: os, vs, ⟨v, r, e1, h1, h2, h3⟩ => by
    refine ⟨v, r, e1, ?_, h2, FlyL.grow g own h3⟩
    have kp : ∀ b, RepB c H ω (.fly 0, none) v b → RepB c H' ω' (.fly 0, none) v b := fun b h => h.grow g.up fun a o k1 k2 => by
      have pb : Prot (ω a) := by rw [k2]; trivial
      obtain ⟨o2, k3, k4⟩ := own a _ k2
      rw [k1] at k3
      cases k3
      exact ⟨g.keep a o k1 pb (fun ps z => by rw [z] at k4; exact k4), (g.lab a o k1 pb).trans k2⟩
    cases o with
    | ins C fs => exact h1
    | b x =>
      cases x with
      | d y => exact Fz.up g.up _ _ h1
      | lst xs => exact ⟨kp _ h1.1, h1.2⟩
      | dct xs => exact ⟨kp _ h1.1, h1.2⟩
theorem sndS_parU2 {b : Expr} {x y : Str} {px py pt : Pos} {kt k2 : Nat} {pt2 : Pos} {i j : Nat} (hc : X.calm = true) (hio : i ∉ io ∧ j ∉ io) (ga : PG X (.Name x px) (gName i)) (gb : PG X (.Name y py) (gName j))
    (ha : PA X [a, b] (TF c (evOs C ms))) (hs : swapsWithSole [.Tuple [.Name x px, .Name y py] kt pt] (.Tuple [a, b] k2 pt2) pos.line X.env = pure false) (hw : swappedStores [.Tuple [.Name x px, .Name y py] kt pt] (.Tuple [a, b] k2 pt2) X.env = pure none) :
    PS X (.Assign [.Tuple [.Name x px, .Name y py] kt pt] (.Tuple [a, b] k2 pt2) pos) (TSm c io (evS C (.par [i, j] ms))) :=
  PS.imp (ps_asg (pe_tup ha) (pg_tup (n := 2) hc (pgs_cons ga (pgs_cons gb pgs_nil (by rfl)) (by rfl)) (by rfl) (by rfl)) hs hw (by rfl)) fun D σ H ⟨ω, e, r, e', R, hf, q⟩ => by
    obtain ⟨os, e1, h1, h2, h3, h4, rfl, rfl⟩ := par_some hf
    refine ⟨ω, e, os, e1, R, h1, h4, fun ω1 H1 vs g1 R1 fl => ?_⟩
    match os, h2, fl with
    | [o1, o2], _, fl =>
      obtain ⟨v, r, rfl, f1⟩ := id fl
      obtain ⟨_, _, w, r2, rfl, _, _, e5⟩ := f1
      cases (show r2 = [] from e5)
      refine ⟨by show 2 ≤ sizeLine; decide, fun p hp => ⟨p, [v, w], rfl, .of upd_same, rfl, v, [w], rfl, w, [], rfl, rfl, ?_⟩⟩
      obtain ⟨R1', gp⟩ := R1.new (u := .tup [v, w]) (l := none) hp fun z => nomatch z
      have fl' := FlyL.grow gp R1.own fl
      obtain ⟨ω2, g2, R2, fl2⟩ := flyPut (g1.trans gp) R1' (h3 i (by simp)) fl'
      obtain ⟨ω3, g3, R3, _⟩ := flyPut g2 R2 (by unfold putO; rw [List.length_set]; exact h3 j (by simp)) fl2
      have n1 : ∀ k ∈ io, i ≠ k := fun k hk z => hio.1 (by rw [z]; exact hk)
      have n2 : ∀ k ∈ io, j ≠ k := fun k hk z => hio.2 (by rw [z]; exact hk)
      exact q ω3 _ _ g3 R3 fun k hk => (set_io (n2 k hk)).trans (set_io (n1 k hk))
theorem sndS_parU3 {b a3 : Expr} {x y z : Str} {px py pz pt : Pos} {kt k2 : Nat} {pt2 : Pos} {i j l : Nat} (hc : X.calm = true) (hio : i ∉ io ∧ j ∉ io ∧ l ∉ io) (ga : PG X (.Name x px) (gName i)) (gb : PG X (.Name y py) (gName j)) (gc : PG X (.Name z pz) (gName l))
    (ha : PA X [a, b, a3] (TF c (evOs C ms))) (hs : swapsWithSole [.Tuple [.Name x px, .Name y py, .Name z pz] kt pt] (.Tuple [a, b, a3] k2 pt2) pos.line X.env = pure false) (hw : swappedStores [.Tuple [.Name x px, .Name y py, .Name z pz] kt pt] (.Tuple [a, b, a3] k2 pt2) X.env = pure none) :
    PS X (.Assign [.Tuple [.Name x px, .Name y py, .Name z pz] kt pt] (.Tuple [a, b, a3] k2 pt2) pos) (TSm c io (evS C (.par [i, j, l] ms))) :=
  PS.imp (ps_asg (pe_tup ha) (pg_tup (n := 3) hc (pgs_cons ga (pgs_cons gb (pgs_cons gc pgs_nil (by rfl)) (by rfl)) (by rfl)) (by rfl) (by rfl)) hs hw (by rfl)) fun D σ H ⟨ω, e, r, e', R, hf, q⟩ => by
    obtain ⟨os, e1, h1, h2, h3, h4, rfl, rfl⟩ := par_some hf
    refine ⟨ω, e, os, e1, R, h1, h4, fun ω1 H1 vs g1 R1 fl => ?_⟩
    match os, h2, fl with
    | [o1, o2, o3], _, fl =>
      obtain ⟨v, r, rfl, f1⟩ := id fl
      obtain ⟨_, _, w, r2, rfl, f2⟩ := f1
      obtain ⟨_, _, u, r3, rfl, _, _, e5⟩ := f2
      cases (show r3 = [] from e5)
      refine ⟨by show 3 ≤ sizeLine; decide, fun p hp => ⟨p, [v, w, u], rfl, .of upd_same, rfl, v, [w, u], rfl, w, [u], rfl, u, [], rfl, rfl, ?_⟩⟩
      obtain ⟨R1', gp⟩ := R1.new (u := .tup [v, w, u]) (l := none) hp fun z => nomatch z
      have fl' := FlyL.grow gp R1.own fl
      obtain ⟨ω2, g2, R2, fl2⟩ := flyPut (g1.trans gp) R1' (h3 i (by simp)) fl'
      obtain ⟨ω3, g3, R3, fl3⟩ := flyPut g2 R2 (by unfold putO; rw [List.length_set]; exact h3 j (by simp)) fl2
      obtain ⟨ω4, g4, R4, _⟩ := flyPut g3 R3 (by unfold putO; rw [List.length_set, List.length_set]; exact h3 l (by simp)) fl3
      have n1 : ∀ k ∈ io, i ≠ k := fun k hk z => hio.1 (by rw [z]; exact hk)
      have n2 : ∀ k ∈ io, j ≠ k := fun k hk z => hio.2.1 (by rw [z]; exact hk)
      have n3 : ∀ k ∈ io, l ≠ k := fun k hk z => hio.2.2 (by rw [z]; exact hk)
      exact q ω4 _ _ g4 R4 fun k hk => ((set_io (n3 k hk)).trans (set_io (n2 k hk))).trans (set_io (n1 k hk))
end
end MP
set_option linter.all false
set_option maxRecDepth 100000
set_option maxHeartbeats 1000000
/-! Objects: fields, methods, making. -/
namespace MP
open PySem PySem.Spec PyProof.Rows L2 GxR
section
variable {c : Cn} {io : List Nat} {X : Cx} {C : CallF} {m : M} {ms : Ms} {ex a : Expr} {es : List Expr} {pos : Pos} {σ : L2.St} {H : Hp} {ω : Om} {e : Env'} {D : Ends} {cl f : Str} {i j : Nat} {x y : Str} {px py p2 p3 : Pos}
/-! ### a field is read -/
theorem getFB_some {b : B} (h : getFB e cl i f = some b) : ∃ fs, e[i]? = some (some (.ins cl fs)) ∧ fs.lookup f = some b := by
  unfold getFB at h
  split at h
  · next c0 fs h0 =>
    split at h
    · next z => subst z; exact ⟨fs, h0, h⟩
    · cases h
  · cases h
/-- the object at a slot, and a field of it -/
theorem own_fld {b : B} (R : Rel c ω σ H e) (h : getFB e cl i f = some b) : ∃ a dx vs u, σ[i]? = some (some (.ref a)) ∧ H a = some (.ins (c.cls cl) dx vs) ∧ ω a = some (.sl i, none) ∧ vs.lookup f = some u ∧ RepB c H ω (.sl i, some f) u b := by
  obtain ⟨fs, h1, h2⟩ := getFB_some h
  obtain ⟨v, h3, a, dx, vs, rfl, h4, h5, _, h6⟩ := R.slot i _ h1
  have q := h6 f
  rw [h2] at q
  obtain ⟨u, q1, q2⟩ := q
  exact ⟨a, dx, vs, u, h3, h4, h5, q1, q2⟩
theorem snd_fld (hK : X.K = c.K) (hN : X.N[i]? = some x) (hv : Vis X.env.scope x) (hd : (x == ("__debug__" : Str)) = false) (hcd : (x == ("__classdict__" : Str)) = false) (hc : Cls c.K (c.cls cl)) (hn : NoAttr c.K (c.cls cl) f)
    (hab : attributeBase (.Name x px) f X.env (eval (.Name x px) X.env) = eval (.Name x px) X.env) : PE X (.Attribute (.Name x px) f pos) (TO c (ev C (.fld cl i f))) :=
  PE.imp (pe_fld (pe_var hN hv hd hcd) hab) fun σ H Q ⟨ω, e, r, e', R, hf, q⟩ => by
    unfold ev at hf
    split at hf
    · next y hy =>
      cases hf
      obtain ⟨a, dx, vs, u, h1, h2, h3, h4, h5⟩ := own_fld R hy
      rw [hK]
      exact ⟨_, h1, a, _, dx, vs, u, rfl, h2, hc, hn, h4, fin_dat R h5 q⟩
    · cases hf
/-- o.f[k] -/
theorem snd_fix (hK : X.K = c.K) (hN : X.N[i]? = some x) (hv : Vis X.env.scope x) (hd : (x == ("__debug__" : Str)) = false) (hcd : (x == ("__classdict__" : Str)) = false) (hN2 : X.N[j]? = some y) (hv2 : Vis X.env.scope y) (hd2 : (y == ("__debug__" : Str)) = false) (hcd2 : (y == ("__classdict__" : Str)) = false)
    (hc : Cls c.K (c.cls cl)) (hn : NoAttr c.K (c.cls cl) f) (hab : attributeBase (.Name x px) f X.env (eval (.Name x px) X.env) = eval (.Name x px) X.env) : PE X (.Subscript (.Attribute (.Name x px) f p2) (.Name y py) pos) (TO c (ev C (.fix cl i f j))) :=
  PE.imp (pe_ix (ix_list.or ix_tup) (pe_fld (pe_var hN hv hd hcd) hab) (pe_var hN2 hv2 hd2 hcd2) (fun _ _ => rfl)) fun σ H Q ⟨ω, e, r, e', R, hf, q⟩ => by
    unfold ev at hf
    obtain ⟨b, h1, hf⟩ := Option.bind_eq_some_iff.mp hf
    obtain ⟨d, h2, hf⟩ := Option.bind_eq_some_iff.mp hf
    obtain ⟨o, h3, hf⟩ := Option.map_eq_some_iff.mp hf
    cases hf
    obtain ⟨a, dx, vs, u, k1, k2, k3, k4, k5⟩ := own_fld R h1
    unfold getB at h2
    split at h2
    case h_2 => cases h2
    next b2 hb2 =>
    cases h2
    obtain ⟨w, w1, w2⟩ := R.slot j _ hb2
    have rw2 : Rdv c H ω w b2.toD := ⟨_, b2, w2, rfl⟩
    have ru : Rdv c H ω u b.toD := ⟨_, b, k5, rfl⟩
    rw [hK]
    refine ⟨_, k1, a, _, dx, vs, u, rfl, k2, hc, hn, k4, w, w1, ?_⟩
    generalize b.toD = x at *
    generalize b2.toD = d' at *
    have hi : ∃ k, d' = .int k := by
      cases d' with
      | int i0 => exact ⟨i0, rfl⟩
      | _ => cases x <;> exact absurd h3 (by simp [idxD])
    obtain ⟨k0, rfl⟩ := hi
    cases x with
    | list xs =>
      obtain ⟨l, vs, e3, e4, e5⟩ := ru.lst
      obtain ⟨z, h5, h6⟩ := atI_get e5 h3
      exact .inl ⟨l, vs, _, z, e3, rw2.int, e4, h5, fin_dat R h6 q⟩
    | tuple xs =>
      obtain ⟨l, vs, e3, e4, e5⟩ := ru.tup
      obtain ⟨z, h5, h6⟩ := atI_get e5 h3
      exact .inr ⟨l, vs, _, z, e3, rw2.int, e4, h5, fin_dat R h6 q⟩
    | _ => exact absurd h3 (by simp [idxD])
/-! ### methods -/
theorem args_bor {o : O} {v : V} {os : List O} {is : List (Option Nat)} {vs : List V} (A : Args' c σ H ω e os is vs) (h1 : σ[i]? = some (some v)) (h2 : e[i]? = some (some o)) : Args' c σ H ω e (o :: os) (some i :: is) (v :: vs) := by
  refine ⟨by simp [A.l1], by simp [A.l2], fun j o u h1 h2 h3 => ?_, fun j i' o' u k1 k2 k3 => ?_⟩
  · cases j with
    | zero => simp at h1
    | succ j => exact A.dat j o u (by simpa using h1) (by simpa using h2) (by simpa using h3)
  · cases j with
    | zero =>
      simp at k1 k2 k3
      subst k1 k2 k3
      exact ⟨h1, h2⟩
    | succ j => exact A.bor j i' o' u (by simpa using k1) (by simpa using k2) (by simpa using k3)
variable {k fi : Nat} {g : Addr} {fd : FuncData} {ps : List Str} {mn : Str} {apos : Pos}
theorem tmeth_ok {Q : VK} {Cc : Addr} (hC : Cc = c.cls cl) (h : TO c (ev C (.mcall cl mn fi i ms)) σ H Q) : tMeth Cc mn (spOf c (C fi)) [] E0 (tVar i) (TAg c (evas C ms)) σ H Q := by
  subst hC
  obtain ⟨ω, e, r, e', R, hf, q⟩ := h
  unfold ev at hf
  split at hf
  case h_2 => cases hf
  next cl' fs hs =>
  split at hf
  case isFalse => cases hf
  next z =>
  obtain ⟨rfl, z2⟩ := z
  obtain ⟨⟨⟨os, is⟩, e1⟩, h1, hf⟩ := Option.bind_eq_some_iff.mp hf
  split at hf
  case h_2 => cases hf
  next o ho =>
  split at hf
  case isFalse => cases hf
  next nd =>
  obtain ⟨⟨fs', r'⟩, h2, hf⟩ := Option.bind_eq_some_iff.mp hf
  obtain ⟨e2, h3, hf⟩ := Option.map_eq_some_iff.mp hf
  cases hf
  obtain ⟨v, h4, a, dx, vs, rfl, h5, h6, _, h7⟩ := R.slot i _ hs
  have hm : vs.lookup mn = none := by
    have q := h7 mn
    rw [z2] at q
    exact q
  refine ⟨_, h4, a, dx, vs, rfl, h5, hm, ω, e, _, e1, R, h1, fun ω1 H1 ws g1 R1 A => ?_⟩
  show spOf c (C fi) (.ref a :: (ws ++ [])) H1 Q E0
  rw [List.append_nil]
  have A' := args_bor A h4 ho
  refine ⟨_, o :: os, fs', _, rel_in R1 A' nd, h2, fun ω2 H2 v g2 R2 rep => ?_⟩
  obtain ⟨G, R3, rep', _⟩ := rel_out R1 A' nd g2 R2 rep h3
  exact q _ H2 v (g1.trans G) R3 rep'
theorem snd_mcall {pl : Sem Bool} (hK : X.K = c.K) (F : FnOk X.prog X.w X.K X.mg X.base CX0 k g fd ps (spOf c (C fi))) (hr : Room k X.A) (hb : Binds X.K fd ps []) (hN : X.N[i]? = some x) (hv : Vis X.env.scope x) (hd : (x == ("__debug__" : Str)) = false) (hcd : (x == ("__classdict__" : Str)) = false)
    (hc : Cls c.K (c.cls cl)) (hm : Meth c.K (c.cls cl) mn g) (ha : PA X (a :: es) (TAg c (evas C ms))) (he : starEach (a :: es) X.env = (false, eval a X.env) :: starEach es X.env) (hpl : (backTo pos (starEach es X.env)).any (·.1) = false)
    (ht : eval (.Call (.Attribute (.Name x px) mn apos) (a :: es) [] pos) X.env = (do
      let ov ← eval (.Name x px) X.env
      standAt apos.atName
      let (f, first) ← holding [ov] (getMethod ov mn pl)
      callWith pos f first (backTo pos (starEach (a :: es) X.env)) (backToKw pos (keywordEach [] X.env)))) :
    PE X (.Call (.Attribute (.Name x px) mn apos) (a :: es) [] pos) (TO c (ev C (.mcall cl mn fi i ms))) :=
  PE.imp (pe_meth (C := c.cls cl) (pe_var hN hv hd hcd) (by rw [hK]; exact hc) (by rw [hK]; exact hm) F hr hb .nil pass0 ha he hpl ht) fun σ H Q h => tmeth_ok rfl h
theorem snd_mcall0 {pl : Sem Bool} (hK : X.K = c.K) (F : FnOk X.prog X.w X.K X.mg X.base CX0 k g fd ps (spOf c (C fi))) (hr : Room k X.A) (hb : Binds X.K fd ps []) (hN : X.N[i]? = some x) (hv : Vis X.env.scope x) (hd : (x == ("__debug__" : Str)) = false) (hcd : (x == ("__classdict__" : Str)) = false)
    (hc : Cls c.K (c.cls cl)) (hm : Meth c.K (c.cls cl) mn g)
    (ht : eval (.Call (.Attribute (.Name x px) mn apos) [] [] pos) X.env = (do
      let ov ← eval (.Name x px) X.env
      standAt apos.atName
      let (f, first) ← holding [ov] (getMethod ov mn pl)
      callWith pos f first (backTo pos (starEach [] X.env)) (backToKw pos (keywordEach [] X.env)))) :
    PE X (.Call (.Attribute (.Name x px) mn apos) [] [] pos) (TO c (ev C (.mcall cl mn fi i .nil))) :=
  PE.imp (pe_meth0 (C := c.cls cl) (pe_var hN hv hd hcd) (by rw [hK]; exact hc) (by rw [hK]; exact hm) F hr hb .nil pass0 ht) fun σ H Q h => by
    obtain ⟨v, h1, a, dx, fs, h2, h3, h4, ω, e, r, e', R, hf, q⟩ := tmeth_ok (Cc := c.cls cl) rfl h
    unfold evas at hf
    cases hf
    exact ⟨v, h1, a, dx, fs, h2, h3, h4, q ω H [] Grow.refl R ⟨rfl, rfl, fun j o v h => by simp at h, fun j i o v h => by simp at h⟩⟩
end
end MP
set_option linter.all false
set_option maxRecDepth 100000
set_option maxHeartbeats 1000000
/-! Objects: making, storing. -/
namespace MP
open PySem PySem.Spec PyProof.Rows L2 GxR
section
variable {c : Cn} {io : List Nat} {X : Cx} {C : CallF} {m : M} {ms : Ms} {ex a : Expr} {es : List Expr} {pos : Pos} {σ : L2.St} {H : Hp} {ω : Om} {e : Env'} {D : Ends} {cl f : Str} {i j : Nat} {x y : Str} {px py p2 p3 : Pos}
/-! ### a new instance: it stands in a slot more while it is made -/
theorem Rel.ext {v : V} {o : O} {n : Nat} (R : Rel c ω σ H e) (hn : e.length = n) (h : RepO c H ω (.sl n) v o) : Rel c ω (σ ++ [some v]) H (e ++ [some o]) := by
  refine ⟨by rw [List.length_append, List.length_append, R.len]; rfl, fun j o' q => ?_, R.tab, R.own⟩
  by_cases z : j < e.length
  · rw [List.getElem?_append_left z] at q
    obtain ⟨u, h1, h2⟩ := R.slot j o' q
    exact ⟨u, by rw [List.getElem?_append_left (by rw [R.len]; exact z)]; exact h1, h2⟩
  · rw [List.getElem?_append_right (by omega)] at q
    have hj : j - e.length = 0 := by
      have := (List.getElem?_eq_some_iff.mp q).1
      simp at this
      omega
    rw [hj] at q
    cases q
    have : j = n := by omega
    subst this
    exact ⟨v, by rw [List.getElem?_append_right (by rw [R.len]; omega), R.len, hj]; rfl, h⟩
theorem args_data : ∀ {ds : List MP.D} {vs : List V}, FzL c.K (fr H ω) ds vs → Args' c σ H ω e (ds.map dat) (ds.map fun _ => none) vs
  | [], vs, h => by
    cases (show vs = [] from h)
    exact ⟨rfl, rfl, fun j o v h => by simp at h, fun j i o v h => by simp at h⟩
  | d :: ds, vs, ⟨v, r, e1, h1, h2⟩ => by
    subst e1
    have A := args_data h2
    refine ⟨by simp, by simp [A.l2], fun j o u k1 k2 k3 => ?_, fun j i o u k1 k2 k3 => ?_⟩
    · cases j with
      | zero =>
        simp at k2 k3
        subst k2 k3
        exact ⟨d, rfl, h1⟩
      | succ j => exact A.dat j o u (by simpa using k1) (by simpa using k2) (by simpa using k3)
    · cases j with
      | zero => simp at k1
      | succ j => exact A.bor j i o u (by simpa using k1) (by simpa using k2) (by simpa using k3)
theorem putBack_none : ∀ {ds : List MP.D} {fs : List (Option O)} {e : Env'}, fs.length = ds.length → putBack (ds.map fun _ => none) fs e = some e
  | [], [], e, _ => by unfold putBack; rfl
  | [], _ :: _, e, h => by simp at h
  | d :: ds, [], e, h => by simp at h
  | d :: ds, f :: fs, e, h => by
    rw [List.map_cons]
    unfold putBack
    exact putBack_none (by simpa using h)
theorem getE_app {e : Env'} {o : Option O} {n : Nat} (hn : e.length = n) : (e ++ [o])[n]? = some o := by
  rw [List.getElem?_append_right (by omega), show n - e.length = 0 by omega]
  rfl
variable {k fi : Nat} {g Cc : Addr} {fd : FuncData} {ps : List Str}
theorem tmake_ok {Q : VK} (hC : Cc = c.cls cl) (F : FnOk X.prog X.w X.K X.mg X.base CX0 k g fd ps (spOf c (C fi))) (h : TO c (ev C (.new cl fi ms)) σ H Q) : tMake Cc (spOf c (C fi)) [] E0 (TL c (evs C ms)) σ H Q := by
  subst hC
  obtain ⟨ω, e, r, e', R, hf, q⟩ := h
  unfold ev at hf
  obtain ⟨⟨ds, e1⟩, h1, hf⟩ := Option.bind_eq_some_iff.mp hf
  simp only at hf
  split at hf
  case h_2 => cases hf
  next cl' fs tl h2 =>
  split at hf
  case isFalse => cases hf
  next z =>
  subst z
  cases hf
  refine ⟨ω, e, ds, _, R, h1, fun ω1 H1 vs g1 R1 hvs x dx hx hdx hne => ?_⟩
  show spOf c (C fi) (.ref x :: (vs ++ [])) _ _ E0
  rw [List.append_nil]
  -- the dict, the instance
  obtain ⟨Ra, ga⟩ := R1.new (u := .own x) (l := none) hdx fun z => nomatch z
  have hx2 : upd H1 dx (.own x) x = none := by rw [upd_ne (Ne.symm hne)]; exact hx
  obtain ⟨Rb, gb⟩ := Ra.new (p := x) (u := .ins (c.cls cl') dx []) (l := some (.sl e'.length, none)) hx2 fun _ => trivial
  have rep0 := Rb.ext (o := .ins cl' []) (v := .ref x) rfl ⟨x, dx, [], rfl, upd_same, if_pos rfl, rfl, fun f => rfl⟩
  have hvs' := FzL.up (ga.trans gb).up _ _ hvs
  have A := args_bor (σ := σ ++ [some (V.ref x)]) (e := e' ++ [some (.ins cl' [])]) (o := .ins cl' []) (v := .ref x) (i := e'.length) (args_data hvs') (by rw [List.getElem?_append_right (by rw [R1.len]; exact Nat.le_refl _), R1.len]; simp) (getE_app rfl)
  have nd : ((some e'.length :: (ds.map fun _ => (none : Option Nat))).filterMap id).Nodup := by
    have : (ds.map fun _ => (none : Option Nat)).filterMap id = [] := by
      rw [List.filterMap_map]
      simp
    rw [List.filterMap_cons]
    simp [this]
  refine ⟨_, _, _, _, rel_in rep0 A nd, h2, fun ω2 H2 v g2 R2 rep => ?_⟩
  have hlen : tl.length = ds.length := by
    have := R2.len
    simp at this
    have hv := A.l2
    simp at hv
    omega
  have hp : putBack (some e'.length :: (ds.map fun _ => none)) (some (O.ins cl' fs) :: tl) (e' ++ [some (O.ins cl' [])]) = some ((e' ++ [some (O.ins cl' [])]).set e'.length (some (O.ins cl' fs))) := by
    unfold putBack
    exact putBack_none hlen
  obtain ⟨G, R3, rep', _⟩ := rel_out rep0 A nd g2 R2 rep hp
  have hnon : v = .non := rep'
  refine ⟨hnon, ?_⟩
  have hslot : ((e' ++ [some (O.ins cl' [])]).set e'.length (some (O.ins cl' fs)))[e'.length]? = some (some (O.ins cl' fs)) := by
    rw [List.getElem?_set, if_pos rfl, if_pos (by simp)]
  obtain ⟨u, u1, u2⟩ := R3.slot e'.length _ hslot
  rw [List.getElem?_append_right (by rw [R1.len]; exact Nat.le_refl _), R1.len] at u1
  simp at u1
  subst u1
  refine q (rl (outO (some e'.length :: ds.map fun _ => none) _ ω2) (movT e'.length)) H2 _ (((g1.trans ga).trans gb).trans (G.trans (Grow.rl fun j f => if_neg (by simp)))) ?_ (u2.rl fun f => if_pos rfl)
  refine ⟨R1.len, fun j o h => ?_, fun P hP => ⟨(R3.tab P hP).1, rl_none (R3.tab P hP).2⟩, fun a l h => ?_⟩
  · have hj : j < e'.length := (List.getElem?_eq_some_iff.mp h).1
    obtain ⟨w, w1, w2⟩ := R3.slot j o (by rw [List.getElem?_set_ne (by omega), List.getElem?_append_left hj]; exact h)
    rw [List.getElem?_append_left (by rw [R1.len]; exact hj)] at w1
    exact ⟨w, w1, w2.rl fun f => if_neg (by intro z; cases z; omega)⟩
  · unfold rl at h
    cases q : outO (some e'.length :: ds.map fun _ => none) _ ω2 a with
    | none => rw [q] at h; cases h
    | some l' => exact R3.own a l' q
theorem snd_new (hK : X.K = c.K) (Mk0 : Mk c.K (c.cls cl) g) (F : FnOk X.prog X.w X.K X.mg X.base CX0 k g fd ps (spOf c (C fi))) (hr : Room (k + 1) X.A) (hg : Gl X x) (hm : X.mg x = some (.ref (c.cls cl))) (hb : Binds X.K fd ps []) (hdb : (x == ("__debug__" : Str)) = false)
    (ha : PA X (a :: es) (TL c (evs C ms))) (he : starEach (a :: es) X.env = (false, eval a X.env) :: starEach es X.env) (hpl : (backTo pos (starEach es X.env)).any (·.1) = false) : PE X (.Call (.Name x px) (a :: es) [] pos) (TO c (ev C (.new cl fi ms))) :=
  PE.imp (pe_make (by rw [hK]; exact Mk0) F hr hg hm hb .nil pass0 ha hdb he hpl) fun σ H Q h => tmake_ok rfl F h
theorem snd_new0 (hK : X.K = c.K) (Mk0 : Mk c.K (c.cls cl) g) (F : FnOk X.prog X.w X.K X.mg X.base CX0 k g fd ps (spOf c (C fi))) (hr : Room (k + 1) X.A) (hg : Gl X x) (hm : X.mg x = some (.ref (c.cls cl))) (hb : Binds X.K fd ps []) (hdb : (x == ("__debug__" : Str)) = false) :
    PE X (.Call (.Name x px) [] [] pos) (TO c (ev C (.new cl fi .nil))) :=
  PE.imp (pe_make0 (by rw [hK]; exact Mk0) F hr hg hm hb .nil pass0 hdb) fun σ H Q h => by
    obtain ⟨ω, e, r, e', R, hf, q⟩ := tmake_ok (Cc := c.cls cl) rfl F h
    unfold evs at hf
    cases hf
    exact q ω H [] Grow.refl R rfl
end
end MP
set_option linter.all false
set_option maxRecDepth 100000
set_option maxHeartbeats 1000000
/-! Objects: fields are stored. -/
namespace MP
open PySem PySem.Spec PyProof.Rows L2 GxR
theorem lkc {α : Type} {g k : Str} {x : α} {r : List (Str × α)} : List.lookup g ((k, x) :: r) = if g = k then some x else List.lookup g r := by
  rw [List.lookup_cons]
  by_cases h : g = k
  · rw [if_pos h, show (g == k) = true by simpa using h]
  · rw [if_neg h, show (g == k) = false by simpa using h]
theorem look_putFD (f : Str) (b : B) : ∀ (fs : List (Str × B)) (g : Str), (putFD f b fs).lookup g = if g = f then some b else fs.lookup g
  | [], g => by
    show List.lookup g [(f, b)] = _
    rw [lkc]
  | (k, x) :: r, g => by
    unfold putFD
    by_cases h : k = f
    · subst h
      rw [if_pos rfl, lkc, lkc]
      by_cases z : g = k
      · rw [if_pos z, if_pos z]
      · rw [if_neg z, if_neg z, if_neg z]
    · rw [if_neg h, lkc, look_putFD f b r g, lkc]
      by_cases z : g = k
      · subst z
        rw [if_pos rfl, if_neg h, if_pos rfl]
      · rw [if_neg z, if_neg (c := g = k) z]
theorem len_putFD (f : Str) (b : B) : ∀ fs : List (Str × B), (putFD f b fs).length = fs.length + if (fs.lookup f).isSome = true then 0 else 1
  | [] => rfl
  | (k, x) :: r => by
    unfold putFD
    by_cases h : k = f
    · subst h
      rw [if_pos rfl, lkc, if_pos rfl]
      rfl
    · rw [if_neg h, List.length_cons, List.length_cons, len_putFD f b r, lkc, if_neg (Ne.symm h)]
      omega
theorem len_putF (f : Str) (v : V) : ∀ fs : List (Str × V), (putF f v fs).length = fs.length + if (fs.lookup f).isSome = true then 0 else 1
  | [] => rfl
  | (k, x) :: r => by
    rw [show putF f v ((k, x) :: r) = (if k = f then (k, v) :: r else (k, x) :: putF f v r) from rfl]
    by_cases h : k = f
    · subst h
      rw [if_pos rfl, lkc, if_pos rfl]
      rfl
    · rw [if_neg h, List.length_cons, List.length_cons, len_putF f v r, lkc, if_neg (Ne.symm h)]
      omega
section
variable {c : Cn} {io : List Nat} {X : Cx} {C : CallF} {m : M} {ms : Ms} {ex a : Expr} {es : List Expr} {pos : Pos} {σ : L2.St} {H : Hp} {ω : Om} {e : Env'} {D : Ends} {cl f g : Str} {i j : Nat} {x y : Str} {px py p2 p3 : Pos}
def setF (i : Nat) (f : Str) : Lb → Option Lb
  | (.tmp, none) => some (.sl i, some f)
  | l => some l
theorem setF_keep {l : Lb} (h : ∀ z, l ≠ (.tmp, z)) : setF i f l = some l := by
  obtain ⟨w, z⟩ := l
  cases w with
  | tmp => exact absurd rfl (h z)
  | _ => rfl
/-- an object's field gets a value -/
theorem Rel.updF {fs : List (Str × B)} {u : V} {b : B} (R : Rel c ω σ H e) (h : e[i]? = some (some (.ins cl fs))) (hu : RepB c H ω (.tmp, none) u b) :
    ∃ a dx vs, σ[i]? = some (some (.ref a)) ∧ H a = some (.ins (c.cls cl) dx vs) ∧ vs.length = fs.length ∧ Grow H ω (upd H a (.ins (c.cls cl) dx (putF f u vs))) (MP.rl ω (setF i f)) ∧ Rel c (MP.rl ω (setF i f)) σ (upd H a (.ins (c.cls cl) dx (putF f u vs))) (putO e i (.ins cl (putFD f b fs))) := by
  have hi : i < e.length := (List.getElem?_eq_some_iff.mp h).1
  obtain ⟨v, h1, a, dx, vs, rfl, h2, h3, h4, h5⟩ := R.slot i _ h
  refine ⟨a, dx, vs, h1, h2, h4, ?_⟩
  have lab : ∀ b l, ω b = some l → (∀ z, l ≠ (.tmp, z)) → MP.rl ω (setF i f) b = some l := fun b l q1 q2 => (rl_some q1).trans (setF_keep q2)
  have up : Up (fr H ω) (fr (upd H a (.ins (c.cls cl) dx (putF f u vs))) (MP.rl ω (setF i f))) := fun b o q n => by
    obtain ⟨q1, q2⟩ := fr_some.mp q
    have ne : b ≠ a := fun z => by rw [z, h3] at q1; cases q1
    exact fr_some.mpr ⟨rl_none q1, by rw [upd_ne ne]; exact q2⟩
  have G : Grow H ω (upd H a (.ins (c.cls cl) dx (putF f u vs))) (MP.rl ω (setF i f)) := by
    refine ⟨fun b o q p n => ?_, fun b ps q => ⟨ps, ?_⟩, fun b o q p => ?_⟩
    · have ne : b ≠ a := fun z => by rw [z, h3] at p; exact p
      rw [upd_ne ne]
      exact q
    · have ne : b ≠ a := fun z => by rw [z, h2] at q; cases q
      rw [upd_ne ne]
      exact q
    · cases k : ω b with
      | none => exact rl_none k
      | some l =>
        rw [k] at p
        exact lab b l k fun z q => by rw [q] at p; exact p
  refine ⟨G, by unfold putO; rw [R.len, List.length_set], fun j o q => ?_, fun P hP => ?_, fun b l q => ?_⟩
  · unfold putO at q
    by_cases z : j = i
    · subst z
      rw [List.getElem?_set, if_pos rfl, if_pos hi] at q
      cases q
      refine ⟨_, h1, a, dx, putF f u vs, rfl, upd_same, lab a _ h3 (fun z q => by cases q), ?_, fun g => ?_⟩
      · rw [len_putF, len_putFD, h4]
        have q := h5 f
        cases k : fs.lookup f with
        | none => rw [k] at q; rw [show vs.lookup f = none from q]; rfl
        | some x => rw [k] at q; obtain ⟨u', k1, _⟩ := q; rw [k1]; rfl
      · rw [look_putFD, lookup_putF]
        by_cases z : g = f
        · subst z
          rw [if_pos rfl, if_pos rfl]
          refine ⟨u, rfl, hu.map up fun p o k1 k2 => ⟨?_, (rl_some k2).trans rfl⟩⟩
          rw [upd_ne (fun z => by rw [z, h3] at k2; cases k2)]
          exact k1
        · rw [if_neg z, if_neg z]
          have q := h5 g
          cases k : fs.lookup g with
          | none => rw [k] at q; exact q
          | some x =>
            rw [k] at q
            obtain ⟨u', k1, k2⟩ := q
            refine ⟨u', k1, k2.grow up fun p o k3 k4 => ⟨?_, lab p _ k4 (fun z q => by cases q)⟩⟩
            rw [upd_ne (fun z => by rw [z, h3] at k4; cases k4)]
            exact k3
    · rw [List.getElem?_set_ne (Ne.symm z)] at q
      obtain ⟨w, w1, w2⟩ := R.slot j o q
      refine ⟨w, w1, w2.grow up fun p o g k1 k2 => ⟨?_, lab p _ k2 (fun z q => by cases q)⟩⟩
      rw [upd_ne (fun y => by rw [y, h3] at k2; cases k2; exact z rfl)]
      exact k1
  · obtain ⟨⟨ps, k1, k2⟩, k3⟩ := R.tab P hP
    exact ⟨⟨ps, by rw [upd_ne (fun z => by rw [z, h3] at k3; cases k3)]; exact k1, k2⟩, rl_none k3⟩
  · by_cases z : b = a
    · exact ⟨.ins (c.cls cl) dx (putF f u vs), by rw [z]; exact upd_same, trivial⟩
    · unfold MP.rl at q
      cases k : ω b with
      | none => rw [k] at q; cases q
      | some l' =>
        obtain ⟨o, k1, k2⟩ := R.own b l' k
        exact ⟨o, by rw [upd_ne z]; exact k1, k2⟩
/-- o.f = value -/
theorem sndS_fset (hK : X.K = c.K) (hN : X.N[i]? = some x) (hv : Vis X.env.scope x) (hd : (x == ("__debug__" : Str)) = false) (hcd : (x == ("__classdict__" : Str)) = false) (hc : Cls c.K (c.cls cl)) (hn : NoAttr c.K (c.cls cl) f)
    (he : PE X ex (TO c (ev C m))) (hs : swapsWith ex (some (.Attribute (.Name x px) f p2)) pos.line X.env = pure false) : PS X (.Assign [.Attribute (.Name x px) f p2] ex pos) (TSm c io (evS C (.fset cl i f m))) :=
  PS.imp (ps_fld (pe_var hN hv hd hcd) he hs) fun D σ H ⟨ω, e, r, e', R, hf, q⟩ => by
    unfold evS at hf
    obtain ⟨⟨o, e1⟩, h1, hf⟩ := Option.bind_eq_some_iff.mp hf
    simp only at hf
    split at hf
    case h_2 => cases hf
    next cl' fs b hs' =>
    split at hf
    case isFalse => cases hf
    next z =>
    obtain ⟨rfl, hl⟩ := z
    cases hf
    refine ⟨ω, e, _, e1, R, h1, fun ω1 H1 v g1 R1 rep => ?_⟩
    obtain ⟨a, dx, vs, k1, k2, k3, G, R2⟩ := R1.updF (f := f) (b := b) hs' rep
    rw [hK]
    exact ⟨_, k1, a, _, dx, vs, rfl, k2, hc, hn, by omega, q _ _ σ (g1.trans G) R2 fun _ _ => rfl⟩
/-! ### o.f, o.g = pair -/
def gFld (K : PySem.W.Frag) (ta : TE) (f : Str) : TG := fun v σ H Q => ta σ H fun x H1 => ∃ a C dx fs, x = .ref a ∧ H1 a = some (.ins C dx fs) ∧ Cls K C ∧ NoAttr K C f ∧ fs.length < 1000 ∧ Q σ (upd H1 a (.ins C dx (putF f v fs)))
theorem pg_fld {o : Expr} {ta : TE} (ha : PE X o ta) : PG X (.Attribute o f pos) (gFld X.K ta f) := by
  refine ⟨fun pins s σ H v u Q I r h => ?_⟩
  rw [PySem.assign_Attribute]
  refine wpAny_bind (wpAny_holding (thn (ha.run pins s σ H _ I h) fun ov s1 ⟨y, H1, I1, r1, a, Cc, dx, fs, e1, e2, k1, k2, k3, q1⟩ => ?_))
  subst e1
  obtain rfl : ov = Value.ref a := r1
  refine wpAny_bind (wpAny_standAt (wpAny_bind (wpAny_holding (setattr_ok I1 e2 k1 k2 k3 r fun s2 I2 => ?_))))
  exact wpAny_release ⟨σ, _, I2, q1⟩
theorem getE_put {o : O} (h : i < e.length) : (putO e i o)[i]? = some (some o) := by
  unfold putO
  rw [List.getElem?_set, if_pos rfl, if_pos h]
theorem putO_put {o o' : O} : putO (putO e i o) i o' = putO e i o' := by
  unfold putO
  rw [List.set_set]
theorem sndS_funp {kt : Nat} {pt : Pos} (hK : X.K = c.K) (hcm : X.calm = true) (hN : X.N[i]? = some x) (hv : Vis X.env.scope x) (hd : (x == ("__debug__" : Str)) = false) (hcd : (x == ("__classdict__" : Str)) = false) (hc : Cls c.K (c.cls cl)) (hn : NoAttr c.K (c.cls cl) f) (hn2 : NoAttr c.K (c.cls cl) g)
    (he : PE X ex (TD c fun e => lift (ev C m e))) (hs : swapsWithSole [.Tuple [.Attribute (.Name x px) f p2, .Attribute (.Name x py) g p3] kt pt] ex pos.line X.env = pure false) (hw : swappedStores [.Tuple [.Attribute (.Name x px) f p2, .Attribute (.Name x py) g p3] kt pt] ex X.env = pure none) :
    PS X (.Assign [.Tuple [.Attribute (.Name x px) f p2, .Attribute (.Name x py) g p3] kt pt] ex pos) (TSm c io (evS C (.funp cl i f g m))) :=
  PS.imp (ps_asg he (pg_tup (n := 2) hcm (pgs_cons (pg_fld (pe_var hN hv hd hcd)) (pgs_cons (pg_fld (pe_var hN hv hd hcd)) pgs_nil (by rfl)) (by rfl)) (by rfl) (by rfl)) hs hw (by rfl)) fun D σ H ⟨ω, e, r, e', R, hf, q⟩ => by
    unfold evS at hf
    obtain ⟨⟨d, e1⟩, h1, hf⟩ := Option.bind_eq_some_iff.mp hf
    simp only at hf
    split at hf
    case h_2 => cases hf
    next cl' fs d1 d2 hs' =>
    split at hf
    case isFalse => cases hf
    next z =>
    obtain ⟨rfl, hl⟩ := z
    cases hf
    refine ⟨ω, e, _, e1, R, h1, fun ω1 H1 v g1 R1 rep => ?_⟩
    obtain ⟨p, ws, rfl, w1, w2⟩ := rep
    obtain ⟨v1, r1, rfl, w3, w4⟩ := w2
    obtain ⟨v2, r2, rfl, w5, w6⟩ := w4
    cases (show r2 = [] from w6)
    have hi : i < e1.length := (List.getElem?_eq_some_iff.mp hs').1
    obtain ⟨a, dx, vs, k1, k2, k3, G, R2⟩ := R1.updF (f := f) (b := .d d1) (u := v1) hs' w3
    obtain ⟨a', dx', vs', k1', k2', k3', G', R3⟩ := R2.updF (i := i) (f := g) (b := .d d2) (u := v2) (getE_put hi) (Fz.up G.up _ _ w5)
    rw [k1] at k1'
    cases k1'
    rw [upd_same] at k2'
    cases k2'
    rw [putO_put] at R3
    rw [hK]
    have hl2 : (putF f v1 vs).length < 1000 := by
      have := len_putF f v1 vs
      rw [this, k3]
      split <;> omega
    refine ⟨p, [v1, v2], rfl, MP.SqT.fr w1, rfl, v1, [v2], rfl, _, k1, a, _, dx, vs, rfl, k2, hc, hn, by omega, v2, [], rfl, _, k1, a, _, dx, _, rfl, upd_same, hc, hn2, hl2, rfl, ?_⟩
    exact q _ _ σ ((g1.trans G).trans G') R3 fun _ _ => rfl
end
end MP
set_option linter.all false
set_option maxRecDepth 100000
set_option maxHeartbeats 1000000
/-! o.f[k] op= v; dicts of a slot. -/
namespace MP
open PySem PySem.Spec PyProof.Rows L2 GxR
section
variable {c : Cn} {io : List Nat} {X : Cx} {C : CallF} {m mi : M} {ms : Ms} {ex a ix : Expr} {es : List Expr} {pos : Pos} {σ : L2.St} {H : Hp} {ω : Om} {e : Env'} {D : Ends} {cl f g : Str} {i j l : Nat} {x y z : Str} {px py pz p2 p3 : Pos}
/-- the list in a field is written -/
theorem Rel.updFl {fs : List (Str × B)} {xs ys : List MP.D} {ws : List V} (R : Rel c ω σ H e) (h : e[i]? = some (some (.ins cl fs))) (hf : fs.lookup f = some (.lst xs)) (hd : FzL c.K (fr H ω) ys ws) :
    ∀ {a dx : Addr} {vs : List (Str × V)} {p : Addr}, σ[i]? = some (some (.ref a)) → H a = some (.ins (c.cls cl) dx vs) → vs.lookup f = some (.ref p) → ω p = some (.sl i, some f) → H p = some (.lst ws0) →
    Grow H ω (upd H p (.lst ws)) ω ∧ Rel c ω σ (upd H p (.lst ws)) (putO e i (.ins cl (putFD f (.lst ys) fs))) := by
  intro a dx vs p hσ hH hl hp hp0
  have hi : i < e.length := (List.getElem?_eq_some_iff.mp h).1
  obtain ⟨v, h1, a', dx', vs', rfl, h2, h3, h4, h5⟩ := R.slot i _ h
  rw [hσ] at h1
  cases h1
  rw [hH] at h2
  cases h2
  have ne : a ≠ p := fun z => by rw [z, hp] at h3; cases h3
  have up : Up (fr H ω) (fr (upd H p (.lst ws)) ω) := fun b o q n => by
    obtain ⟨q1, q2⟩ := fr_some.mp q
    exact fr_some.mpr ⟨q1, by rw [upd_ne (fun z => by rw [z, hp] at q1; cases q1)]; exact q2⟩
  have G : Grow H ω (upd H p (.lst ws)) ω := by
    refine ⟨fun b o q k n => ?_, fun b ps q => ⟨ps, ?_⟩, fun _ _ _ _ => rfl⟩
    · rw [upd_ne (fun z => by rw [z, hp] at k; exact k)]
      exact q
    · rw [upd_ne (fun z => by rw [z, hp0] at q; cases q)]
      exact q
  refine ⟨G, by unfold putO; rw [R.len, List.length_set], fun j o q => ?_, fun P hP => ?_, fun b k q => ?_⟩
  · unfold putO at q
    by_cases z : j = i
    · subst z
      rw [List.getElem?_set, if_pos rfl, if_pos hi] at q
      cases q
      refine ⟨_, hσ, a, dx, vs, rfl, by rw [upd_ne ne]; exact hH, h3, ?_, fun g => ?_⟩
      · rw [len_putFD, hf, h4]
        rfl
      · rw [look_putFD]
        by_cases z : g = f
        · subst z
          rw [if_pos rfl]
          exact ⟨_, hl, p, ws, rfl, upd_same, hp, FzL.up up _ _ hd⟩
        · rw [if_neg z]
          have q := h5 g
          cases k : fs.lookup g with
          | none => rw [k] at q; exact q
          | some x =>
            rw [k] at q
            obtain ⟨u', k1, k2⟩ := q
            refine ⟨u', k1, k2.grow up fun b o k3 k4 => ⟨?_, k4⟩⟩
            rw [upd_ne (fun y => by rw [y, hp] at k4; cases k4; exact z rfl)]
            exact k3
    · rw [List.getElem?_set_ne (Ne.symm z)] at q
      obtain ⟨w, w1, w2⟩ := R.slot j o q
      refine ⟨w, w1, w2.grow up fun b o g k1 k2 => ⟨?_, k2⟩⟩
      rw [upd_ne (fun y => by rw [y, hp] at k2; cases k2; exact z rfl)]
      exact k1
  · obtain ⟨⟨ps, k1, k2⟩, k3⟩ := R.tab P hP
    exact ⟨⟨ps, by rw [upd_ne (fun z => by rw [z, hp] at k3; cases k3)]; exact k1, k2⟩, k3⟩
  · by_cases z : b = p
    · exact ⟨.lst ws, by rw [z]; exact upd_same, trivial⟩
    · obtain ⟨o, k1, k2⟩ := R.own b k q
      exact ⟨o, by rw [upd_ne z]; exact k1, k2⟩
theorem getB_rdv {d : MP.D} (R : Rel c ω σ H e) (h : getB e i = some d) : ∃ v, σ[i]? = some (some v) ∧ Rdv c H ω v d := by
  unfold getB at h
  split at h
  · next b hb =>
    cases h
    obtain ⟨v, h1, h2⟩ := R.slot i _ hb
    exact ⟨v, h1, _, b, h2, rfl⟩
  · cases h
theorem augD_ints {o : Bop} {a b w : MP.D} (h : augD o a b = some w) : ∃ i j k, a = .int i ∧ b = .int j ∧ w = .int k := by
  unfold augD at h
  split at h
  · cases h; exact ⟨_, _, _, rfl, rfl, rfl⟩
  · cases h; exact ⟨_, _, _, rfl, rfl, rfl⟩
  · cases h
theorem sndS_faug {o : Bop} (hK : X.K = c.K) (ho : isAug o = true) (hN : X.N[i]? = some x) (hv : Vis X.env.scope x) (hd : (x == ("__debug__" : Str)) = false) (hcd : (x == ("__classdict__" : Str)) = false) (hN2 : X.N[j]? = some y) (hv2 : Vis X.env.scope y) (hd2 : (y == ("__debug__" : Str)) = false) (hcd2 : (y == ("__classdict__" : Str)) = false)
    (hN3 : X.N[l]? = some z) (hv3 : Vis X.env.scope z) (hd3 : (z == ("__debug__" : Str)) = false) (hcd3 : (z == ("__classdict__" : Str)) = false)
    (hc : Cls c.K (c.cls cl)) (hn : NoAttr c.K (c.cls cl) f) (hab : attributeBase (.Name x px) f X.env (eval (.Name x px) X.env) = eval (.Name x px) X.env) :
    PS X (.AugAssign (.Subscript (.Attribute (.Name x px) f p2) (.Name y py) p3) (opOf o) (.Name z pz) pos) (TSm c io (evS C (.faug cl i f o j l))) :=
  PS.imp (ps_augS (pe_fld (pe_var hN hv hd hcd) hab) (pe_var hN2 hv2 hd2 hcd2) get_list (pe_var hN3 hv3 hd3 hcd3) (ip_aug ho) set_list (fun _ _ _ => rfl)) fun D σ H ⟨ω, e, r, e', R, hf, q⟩ => by
    unfold evS at hf
    split at hf
    case h_2 => cases hf
    next c0 fs xs hs hfb =>
    obtain ⟨dj, h1, hf⟩ := Option.bind_eq_some_iff.mp hf
    obtain ⟨k, h2, hf⟩ := Option.bind_eq_some_iff.mp hf
    obtain ⟨old, h3, hf⟩ := Option.bind_eq_some_iff.mp hf
    obtain ⟨dl, h4, hf⟩ := Option.bind_eq_some_iff.mp hf
    obtain ⟨w, h5, hf⟩ := Option.bind_eq_some_iff.mp hf
    obtain ⟨n, h6, hf⟩ := Option.map_eq_some_iff.mp hf
    cases hf
    obtain ⟨fs', g1, g2⟩ := getFB_some hfb
    rw [hs] at g1
    cases g1
    obtain ⟨a, dx, vs, u, k1, k2, k3, k4, p, ws, rfl, k6, k7, k8⟩ := own_fld R hfb
    have := intOf_some h2
    subst this
    obtain ⟨vj, j1, j2⟩ := getB_rdv R h1
    obtain ⟨vl, l1, l2⟩ := getB_rdv R h4
    obtain ⟨v, m1, m2⟩ := MP.atI_get k8 h3
    obtain ⟨i1, i2, i3, rfl, rfl, rfl⟩ := augD_ints h5
    rw [hK]
    refine ⟨_, k1, a, _, dx, vs, _, rfl, k2, hc, hn, k4, vj, j1, p, ws, k, v, rfl, j2.int, .inl (.inl k6), m1, vl, l1, ?_⟩
    refine aug_ok (ω := ω) h5 m2 (l2.int) fun zv hz => ?_
    obtain ⟨G, R3⟩ := Rel.updFl R hs g2 (FzL.set hz n k8) k1 k2 k4 k7 k6
    exact ⟨p, ws, k, n, rfl, j2.int, k6, by rw [k8.length]; exact h6, q ω _ σ G R3 fun _ _ => rfl⟩
/-! ### dicts -/
theorem keyV_key {d : MP.D} (h : isKey d = true) : ∃ q, keyV d = some q ∧ ∀ F v, Fz c.K F d v → v = kV q := by
  cases d with
  | int i => exact ⟨.inl i, rfl, fun F v h => h⟩
  | str s => exact ⟨.inr s, rfl, fun F v h => h⟩
  | _ => cases h
theorem keyEq_iff {a b : MP.D} {p q : Key} (ha : keyV a = some p) (hb : keyV b = some q) : keyEq a b = decide (p = q) := by
  cases a <;> cases b <;> cases ha <;> cases hb <;> simp [keyEq]
theorem FzK.look {F : Hp} {k : MP.D} {q : Key} (hk : keyV k = some q) : ∀ {kvs : List (MP.D × MP.D)} {ks : List (Key × V)}, FzK c.K F kvs ks → (match lookK kvs k with
    | some d => ∃ v, valV ks q = some v ∧ Fz c.K F d v
    | none => valV ks q = none)
  | [], ks, h => by
    cases (show ks = [] from h)
    rfl
  | (k', d) :: kvs, ks, ⟨p, v, s, e1, e2, h1, h2⟩ => by
    subst e1
    have ih := FzK.look hk h2
    unfold lookK at ih ⊢
    rw [List.find?_cons, keyEq_iff e2 hk]
    by_cases z : p = q
    · rw [decide_eq_true z]
      exact ⟨v, valV_pos z, h1⟩
    · rw [decide_eq_false z]
      simp only
      rw [valV_neg z]
      exact ih
theorem FzK.any {F : Hp} {k : MP.D} {q : Key} (hk : keyV k = some q) : ∀ {kvs : List (MP.D × MP.D)} {ks : List (Key × V)}, FzK c.K F kvs ks → (kvs.any fun z => keyEq z.1 k) = (ks.any fun kv => decide (kv.1 = q))
  | [], ks, h => by
    cases (show ks = [] from h)
    rfl
  | (k', d) :: kvs, ks, ⟨p, v, s, e1, e2, h1, h2⟩ => by
    subst e1
    rw [List.any_cons, List.any_cons, FzK.any hk h2, keyEq_iff e2 hk]
theorem FzK.mapSet {F : Hp} {k d : MP.D} {q : Key} {w : V} (hk : keyV k = some q) (hd : Fz c.K F d w) : ∀ {kvs : List (MP.D × MP.D)} {ks : List (Key × V)}, FzK c.K F kvs ks → FzK c.K F (kvs.map fun z => if keyEq z.1 k = true then (z.1, d) else z) (ks.map fun kv => if kv.1 = q then (kv.1, w) else kv)
  | [], ks, h => by
    cases (show ks = [] from h)
    rfl
  | (k', d') :: kvs, ks, ⟨p, v, s, e1, e2, h1, h2⟩ => by
    subst e1
    have ih := FzK.mapSet hk hd h2
    rw [List.map_cons, List.map_cons, keyEq_iff e2 hk]
    by_cases z : p = q
    · rw [decide_eq_true z, if_pos rfl, if_pos z]
      exact ⟨p, w, _, rfl, e2, hd, ih⟩
    · rw [decide_eq_false z, if_neg (by decide), if_neg z]
      exact ⟨p, v, _, rfl, e2, h1, ih⟩
theorem FzK.app {F : Hp} {k d : MP.D} {q : Key} {w : V} (hk : keyV k = some q) (hd : Fz c.K F d w) : ∀ {kvs : List (MP.D × MP.D)} {ks : List (Key × V)}, FzK c.K F kvs ks → FzK c.K F (kvs ++ [(k, d)]) (ks ++ [(q, w)])
  | [], ks, h => by
    cases (show ks = [] from h)
    exact ⟨q, w, [], rfl, hk, hd, rfl⟩
  | (k', d') :: kvs, ks, ⟨p, v, s, e1, e2, h1, h2⟩ => by
    subst e1
    exact ⟨p, v, s ++ [(q, w)], rfl, e2, h1, FzK.app hk hd h2⟩
theorem FzK.put {F : Hp} {k d : MP.D} {q : Key} {w : V} (hk : keyV k = some q) (hd : Fz c.K F d w) {kvs : List (MP.D × MP.D)} {ks : List (Key × V)} (h : FzK c.K F kvs ks) : FzK c.K F (putKD kvs k d) (putK ks q w) := by
  unfold putKD putK
  rw [FzK.any hk h]
  split
  · exact FzK.mapSet hk hd h
  · exact FzK.app hk hd h
theorem FzK.length {F : Hp} : ∀ {kvs : List (MP.D × MP.D)} {ks : List (Key × V)}, FzK c.K F kvs ks → ks.length = kvs.length
  | [], ks, h => by
    cases (show ks = [] from h)
    rfl
  | (k', d') :: kvs, ks, ⟨p, v, s, e1, e2, h1, h2⟩ => by
    subst e1
    rw [List.length_cons, List.length_cons, FzK.length h2]
theorem dctAt_some {kvs : List (MP.D × MP.D)} (h : dctAt e i = some kvs) : e[i]? = some (some (.b (.dct kvs))) := by
  unfold dctAt at h
  split at h
  · next ys hy => cases h; exact hy
  · cases h
theorem own_dct {kvs : List (MP.D × MP.D)} (R : Rel c ω σ H e) (h : dctAt e i = some kvs) : ∃ p ks, σ[i]? = some (some (.ref p)) ∧ H p = some (.dK ks) ∧ ω p = some (.sl i, none) ∧ FzK c.K (fr H ω) kvs ks := by
  obtain ⟨v, h1, p, ks, rfl, h2, h3, h4⟩ := R.slot i _ (dctAt_some h)
  exact ⟨p, ks, h1, h2, h3, h4⟩
theorem Rel.updSlD {p : Addr} {kvs : List (MP.D × MP.D)} {ks ks0 : List (Key × V)} (R : Rel c ω σ H e) (hi : i < e.length) (hσ : σ[i]? = some (some (.ref p))) (hp : ω p = some (.sl i, none)) (hp0 : H p = some (.dK ks0)) (hd : FzK c.K (fr H ω) kvs ks) :
    Grow H ω (upd H p (.dK ks)) ω ∧ Rel c ω σ (upd H p (.dK ks)) (putO e i (.b (.dct kvs))) := by
  have up : Up (fr H ω) (fr (upd H p (.dK ks)) ω) := fun a o h n => by
    obtain ⟨h1, h2⟩ := fr_some.mp h
    exact fr_some.mpr ⟨h1, by rw [upd_ne (fun z => by rw [z, hp] at h1; cases h1)]; exact h2⟩
  have G : Grow H ω (upd H p (.dK ks)) ω := by
    refine ⟨fun a o h q n => ?_, fun a ps h => ⟨ps, ?_⟩, fun _ _ _ _ => rfl⟩
    · rw [upd_ne (fun z => by rw [z, hp] at q; exact q)]
      exact h
    · rw [upd_ne (fun z => by rw [z, hp0] at h; cases h)]
      exact h
  refine ⟨G, by unfold putO; rw [R.len, List.length_set], fun j o h => ?_, fun P hP => ?_, fun a l h => ?_⟩
  · unfold putO at h
    by_cases z : j = i
    · subst z
      rw [List.getElem?_set, if_pos rfl, if_pos hi] at h
      cases h
      exact ⟨_, hσ, p, ks, rfl, upd_same, hp, FzK.up up _ _ hd⟩
    · rw [List.getElem?_set_ne (Ne.symm z)] at h
      obtain ⟨u, h1, h2⟩ := R.slot j o h
      refine ⟨u, h1, h2.grow up fun a o f e1 e2 => ⟨?_, e2⟩⟩
      rw [upd_ne (fun y => by rw [y, hp] at e2; cases e2; exact z rfl)]
      exact e1
  · obtain ⟨⟨ps, h1, h3⟩, h2⟩ := R.tab P hP
    exact ⟨⟨ps, by rw [upd_ne (fun z => by rw [z, hp] at h2; cases h2)]; exact h1, h3⟩, h2⟩
  · by_cases z : a = p
    · exact ⟨.dK ks, by rw [z]; exact upd_same, trivial⟩
    · obtain ⟨o, h1, h2⟩ := R.own a l h
      exact ⟨o, by rw [upd_ne z]; exact h1, h2⟩
/-- k in d -/
theorem inD_te {n : Bool} {σ : L2.St} {H : Hp} {Q : VK} (h : TO c (ev C (.inD n m i)) σ H Q) : (if n = true then tDNotIn (TD c fun e => lift (ev C m e)) (tVar i) σ H Q else tDIn (TD c fun e => lift (ev C m e)) (tVar i) σ H Q) := by
  have fin : ∃ ω e d e', Rel c ω σ H e ∧ lift (ev C m e) = some (d, e') ∧ ∀ ω' H' v, Grow H ω H' ω' → Rel c ω' σ H' e' → Fz c.K (fr H' ω') d v → ∃ p o, σ[i]? = some (some (.ref p)) ∧ DGet H' p v o ∧ Q (.bl (n != o.isSome)) H' := by
    obtain ⟨ω, e, r, e', R, hf, q⟩ := h
    unfold ev at hf
    obtain ⟨⟨d, e1⟩, h1, hf⟩ := Option.bind_eq_some_iff.mp hf
    obtain ⟨kvs, h2, hf⟩ := Option.bind_eq_some_iff.mp hf
    split at hf
    case isFalse => cases hf
    next hk =>
    cases hf
    refine ⟨ω, e, d, _, R, h1, fun ω1 H1 v g1 R1 hv => ?_⟩
    obtain ⟨p, ks, k1, k2, k3, k4⟩ := own_dct R1 h2
    obtain ⟨kq, k5, k6⟩ := keyV_key (c := c) hk
    have l : match lookK kvs d with
      | some d => ∃ v, valV ks kq = some v ∧ Fz c.K (fr H1 ω1) d v
      | none => valV ks kq = none := FzK.look k5 k4
    refine ⟨p, valV ks kq, k1, by rw [k6 _ _ hv]; exact .k k2, ?_⟩
    have e1 : (lookK kvs d).isSome = (valV ks kq).isSome := by
      cases z : lookK kvs d with
      | none =>
        rw [z] at l
        have l : valV ks kq = none := l
        rw [l]
        rfl
      | some w =>
        rw [z] at l
        obtain ⟨u, l1, _⟩ := l
        rw [l1]
        rfl
    rw [← e1]
    exact fin_bl R1 (Kw.grow q g1)
  obtain ⟨ω, e, d, e', R, h1, k⟩ := fin
  cases n with
  | true =>
    rw [if_pos rfl]
    refine ⟨ω, e, d, e', R, h1, fun ω1 H1 v g1 R1 hv => ?_⟩
    obtain ⟨p, o, k1, k2, k3⟩ := k ω1 H1 v g1 R1 hv
    refine ⟨_, k1, p, o, rfl, k2, ?_⟩
    cases o <;> exact k3
  | false =>
    rw [if_neg (by decide)]
    refine ⟨ω, e, d, e', R, h1, fun ω1 H1 v g1 R1 hv => ?_⟩
    obtain ⟨p, o, k1, k2, k3⟩ := k ω1 H1 v g1 R1 hv
    refine ⟨_, k1, p, o, rfl, k2, ?_⟩
    cases o <;> exact k3
theorem snd_inD {n : Bool} (hu : X.A.units + 1 < cLine) (hm : behindInMarks (if n = true then .NotIn else .In) (.Name x px) = false) (hN : X.N[i]? = some x) (hv : Vis X.env.scope x) (hd : (x == ("__debug__" : Str)) = false) (hcd : (x == ("__classdict__" : Str)) = false) (he : PE X ex (TD c fun e => lift (ev C m e))) :
    PE X (.Compare ex [if n = true then .NotIn else .In] [.Name x px] pos) (TO c (ev C (.inD n m i))) := by
  cases n with
  | true => exact PE.imp (pe_cmp (pc_dnotin hu he (pe_var hN hv hd hcd)) hm) fun σ H Q h => inD_te (n := true) h
  | false => exact PE.imp (pe_cmp (pc_din hu he (pe_var hN hv hd hcd)) hm) fun σ H Q h => inD_te (n := false) h
/-- d[k] -/
theorem snd_getD (hu : X.A.units + 1 < cLine) (hN : X.N[i]? = some x) (hv : Vis X.env.scope x) (hd : (x == ("__debug__" : Str)) = false) (hcd : (x == ("__classdict__" : Str)) = false) (he : PE X ex (TD c fun e => lift (ev C m e))) (hs : NoSl ex) :
    PE X (.Subscript (.Name x px) ex pos) (TO c (ev C (.getD i m))) := PE.imp (pe_dget hu (pe_var hN hv hd hcd) he hs) fun σ H Q ⟨ω, e, r, e', R, hf, q⟩ => by
  unfold ev at hf
  split at hf
  case isFalse => cases hf
  next h0 =>
  obtain ⟨kvs0, hk0⟩ := Option.isSome_iff_exists.mp h0
  obtain ⟨p0, ks0, hv0, _⟩ := own_dct R hk0
  obtain ⟨⟨d, e1⟩, h1, hf⟩ := Option.bind_eq_some_iff.mp hf
  obtain ⟨kvs, h2, hf⟩ := Option.bind_eq_some_iff.mp hf
  split at hf
  case isFalse => cases hf
  next hk =>
  obtain ⟨w, h3, hf⟩ := Option.map_eq_some_iff.mp hf
  cases hf
  refine ⟨_, hv0, ω, e, d, _, R, h1, fun ω1 H1 v g1 R1 hv => ?_⟩
  obtain ⟨p, ks, k1, k2, k3, k4⟩ := own_dct R1 h2
  rw [hv0] at k1
  cases k1
  obtain ⟨kq, k5, k6⟩ := keyV_key (c := c) hk
  have l := FzK.look k5 k4
  rw [h3] at l
  obtain ⟨u, l1, l2⟩ := l
  exact ⟨_, u, rfl, by rw [k6 _ _ hv, ← l1]; exact .k k2, fin_dat R1 l2 (Kw.grow q g1)⟩
/-- d[k] = v -/
theorem sndS_dput (hu : X.A.units + 1 < cLine) (hN : X.N[i]? = some x) (hv : Vis X.env.scope x) (hd : (x == ("__debug__" : Str)) = false) (hcd : (x == ("__classdict__" : Str)) = false) (he : PE X ex (TD c fun e => lift (ev C m e))) (hi : PE X ix (TD c fun e => lift (ev C mi e)))
    (hs : swapsWith ex (some (.Subscript (.Name x px) ix p2)) pos.line X.env = pure false) : PS X (.Assign [.Subscript (.Name x px) ix p2] ex pos) (TSm c io (evS C (.dput i mi m))) :=
  PS.imp (ps_dput hu (pe_var hN hv hd hcd) hi he hs) fun D σ H ⟨ω, e, r, e', R, hf, q⟩ => by
    unfold evS at hf
    split at hf
    case isFalse => cases hf
    next h0 =>
    obtain ⟨kvs0, hk0⟩ := Option.isSome_iff_exists.mp h0
    obtain ⟨p0, ks0, hv0, _⟩ := own_dct R hk0
    obtain ⟨⟨d, e1⟩, h1, hf⟩ := Option.bind_eq_some_iff.mp hf
    obtain ⟨⟨dk, e2⟩, h2, hf⟩ := Option.bind_eq_some_iff.mp hf
    obtain ⟨kvs, h3, hf⟩ := Option.bind_eq_some_iff.mp hf
    split at hf
    case isFalse => cases hf
    next hk =>
    cases hf
    refine ⟨ω, e, d, e1, R, h1, fun ω1 H1 v g1 R1 hv => ⟨_, hv0, ω1, e1, dk, e2, R1, h2, fun ω2 H2 w g2 R2 hw => ?_⟩⟩
    obtain ⟨p, ks, k1, k2, k3, k4⟩ := own_dct R2 h3
    rw [hv0] at k1
    cases k1
    obtain ⟨kq, k5, k6⟩ := keyV_key (c := c) hk.1
    obtain ⟨g3, R3⟩ := R2.updSlD (List.getElem?_eq_some_iff.mp (dctAt_some h3)).1 hv0 k3 k2 (FzK.put k5 (Fz.up g2.up _ _ hv) k4)
    exact ⟨_, _, rfl, by rw [k6 _ _ hw]; exact .k k2 (by rw [k4.length]; have := hk.2; rw [sizeLine_eq]; omega), q ω2 _ σ ((g1.trans g2).trans g3) R3 fun _ _ => rfl⟩
end
end MP
set_option linter.all false
set_option maxRecDepth 100000
set_option maxHeartbeats 1000000
/-! {k: v}; t[::-1]; len(set(..)); [*range(..), *range(..)]. -/
namespace MP
open PySem PySem.Spec PyProof.Rows L2 GxR
section
variable {c : Cn} {X : Cx} {C : CallF} {ma mb : M} {a b : Expr} {pos : Pos} {σ : L2.St} {H : Hp} {ω : Om} {e : Env'}
def tmpAt (ω : Om) (p : Addr) : Om := fun a => if a = p then some (.tmp, none) else ω a
theorem Rel.flyDone {p : Addr} {u : HO} {o0 : HO} (R : Rel c ω σ H e) (hp : ω p = some (.fly 0, none)) (hp0 : H p = some o0) (hm : Mut (some u)) : Rel c (tmpAt ω p) σ (upd H p u) e ∧ Up (fr H ω) (fr (upd H p u) (tmpAt ω p)) := by
  have up : Up (fr H ω) (fr (upd H p u) (tmpAt ω p)) := fun a o h n => by
    obtain ⟨h1, h2⟩ := fr_some.mp h
    have ne : a ≠ p := fun z => by rw [z, hp] at h1; cases h1
    exact fr_some.mpr ⟨(if_neg ne).trans h1, by rw [upd_ne ne]; exact h2⟩
  refine ⟨⟨R.len, fun i o h => ?_, fun P hP => ?_, fun a l h => ?_⟩, up⟩
  · obtain ⟨v, h1, h2⟩ := R.slot i o h
    refine ⟨v, h1, h2.grow up fun a o f k1 k2 => ?_⟩
    have ne : a ≠ p := fun z => by rw [z, hp] at k2; cases k2
    exact ⟨by rw [upd_ne ne]; exact k1, (if_neg ne).trans k2⟩
  · obtain ⟨⟨ps, k1, k2⟩, k3⟩ := R.tab P hP
    have ne : P ≠ p := fun z => by rw [z, hp] at k3; cases k3
    exact ⟨⟨ps, by rw [upd_ne ne]; exact k1, k2⟩, (if_neg ne).trans k3⟩
  · by_cases z : a = p
    · exact ⟨u, by rw [z]; exact upd_same, hm⟩
    · obtain ⟨o, k1, k2⟩ := R.own a l ((if_neg z).symm.trans h)
      exact ⟨o, by rw [upd_ne z]; exact k1, k2⟩
/-- {k: v} -/
theorem snd_dct1 (ha : PE X a (TD c fun e => lift (ev C ma e))) (hb : PE X b (TD c fun e => lift (ev C mb e))) : PE X (.Dict [some a] [b] pos) (TO c (ev C (.dct1 ma mb))) :=
  PE.imp (pe_disp (pps_cons ha hb pps_nil) rfl rfl (fun z => nomatch z) (by simp)) fun σ H Q ⟨ω, e, r, e', R, hf, q⟩ => by
    unfold ev at hf
    obtain ⟨⟨d1, e1⟩, h1, hf⟩ := Option.bind_eq_some_iff.mp hf
    obtain ⟨⟨d2, e2⟩, h2, hf⟩ := Option.bind_eq_some_iff.mp hf
    split at hf
    case isFalse => cases hf
    next hk =>
    cases hf
    intro p hp
    obtain ⟨R0, g0⟩ := R.new (u := .dK []) (l := some (.fly 0, none)) hp fun _ => trivial
    have l0 : (fun a => if a = p then some (Ow.fly 0, (none : Option Str)) else ω a) p = some (.fly 0, none) := if_pos rfl
    refine ⟨_, e, d1, e1, R0, h1, fun ω1 H1 v g1 R1 hv => ⟨ω1, e1, d2, _, R1, h2, fun ω2 H2 w g2 R2 hw => ?_⟩⟩
    have g12 := g1.trans g2
    have p0 : Prot ((fun a => if a = p then some (Ow.fly 0, (none : Option Str)) else ω a) p) := by rw [l0]; trivial
    have hH2 : H2 p = some (.dK []) := g12.keep p _ upd_same p0 (fun ps z => nomatch z)
    have hω2 : ω2 p = some (.fly 0, none) := (g12.lab p _ upd_same p0).trans l0
    obtain ⟨kq, k5, k6⟩ := keyV_key (c := c) hk
    obtain ⟨R3, up3⟩ := R2.flyDone (u := .dK [(kq, w)]) hω2 hH2 trivial
    have hm : mergeK [] [(kq, w)] = [(kq, w)] := rfl
    refine ⟨hH2, [(kq, w)], by rw [k6 _ _ hv]; rfl, by simp, ?_⟩
    rw [hm]
    refine q (tmpAt ω2 p) _ _ ?_ R3 ⟨p, _, rfl, upd_same, if_pos rfl, kq, w, [], rfl, k5, Fz.up up3 _ _ hw, rfl⟩
    have ne : ∀ a o, H a = some o → a ≠ p := fun a o e z => by rw [z, hp] at e; cases e
    refine ⟨fun a o h u n => ?_, fun a ps h => ?_, fun a o h u => ?_⟩
    · rw [upd_ne (ne a o h)]
      exact (g0.trans g12).keep a o h u n
    · obtain ⟨ps', h'⟩ := (g0.trans g12).tbl a ps h
      exact ⟨ps', by rw [upd_ne (ne a _ h)]; exact h'⟩
    · exact (if_neg (ne a o h)).trans ((g0.trans g12).lab a o h u)
/-! [*range(a), *range(b)] -/
theorem FzL.rng {F : Hp} {n : Nat} : FzL c.K F (rngD 0 n) (rgV 0 (n : Int)) := by
  have key : ∀ ks : List Nat, FzL c.K F (ks.map fun (i : Nat) => PyData.int (0 + (i : Int))) (ks.map fun (i : Nat) => V.int (0 + (i : Int))) := by
    intro ks
    induction ks with
    | nil => exact rfl
    | cons k ks ih => exact ⟨_, _, rfl, rfl, ih⟩
  unfold rngD rgV
  rw [show ((n : Int) - 0).toNat = n by omega]
  exact key (List.range n)
def tSpr (te : L2.St → Hp → (Int → Int → Hp → Prop) → Prop) (t : TA) : TA := fun σ H Q => te σ H fun x y H1 => RgOk x y ∧ t σ H1 fun vs H2 => Q (rgV x y ++ vs) H2
theorem pa_spr {ex : Expr} {es : List Expr} {te : L2.St → Hp → (Int → Int → Hp → Prop) → Prop} {t : TA} {p : Pos} (hc : X.calm = true) (he : PRg X ex te) (hr : PA X es t) (hs : starEach (.Starred ex p :: es) X.env = (true, eval ex X.env) :: starEach es X.env) : PA X (.Starred ex p :: es) (tSpr te t) := by
  refine ⟨fun pos pins s σ H Q I h => ?_⟩
  refine PySem.W.items_star (thn (he pins s σ H _ I h) fun v s1 ⟨r, x, y, t1, t2, t3, H1, ev, hr1, I1, ok, q⟩ => ?_) hs
  subst ev
  obtain ⟨b1, b2, b3, b4, b5⟩ := ok
  have hT : s1.TypeIs (.ref r) "range" := ⟨_, hr1, rfl⟩
  unfold PySem.W.StarOf notIterableAtAll
  refine wpAny_bind (wpAny_specialOf hT PySem.F.slot_range_iter.lookup (wpAny_pure ⟨rfl, ?_⟩))
  refine collect_range (n := (y - x).toNat) (I1.ok.hd hc) hr1 (small_one b1 b2 b3 b4) (rangeSize_nat x y) b5 fun h' tk acc hk hi => ?_
  have I2 : Inv X pins σ H1 { s1 with heap := h', toks := tk } := I1.kept hk
  exact thn (hr.run pos pins _ σ H1 _ I2 q) fun ws s3 ⟨vs, H3, I3, r3, q3⟩ => ⟨_, H3, I3, (vals_rg hi).append r3, q3⟩
theorem snd_strr {p1 p2 p3 p4 p5 p6 : Pos} (hc : X.calm = true) (hg : Gl X "range") (hm : X.mg "range" = none) (ha : PE X a (TD c fun e => lift (ev C ma e))) (hb : PE X b (TD c fun e => lift (ev C mb e)))
    (na : starEach [a] X.env = (false, eval a X.env) :: starEach [] X.env) (nb : starEach [b] X.env = (false, eval b X.env) :: starEach [] X.env) :
    PE X (.List [.Starred (.Call (.Name "range" p1) [a] [] p2) p3, .Starred (.Call (.Name "range" p4) [b] [] p5) p6] pos) (TO c (ev C (.strr ma mb))) :=
  PE.imp (pe_lst (pa_spr hc (prg_1 hg hm ha na) (pa_spr hc (prg_1 hg hm hb nb) pa_nil rfl) rfl)) fun σ H Q ⟨ω, e, r, e', R, hf, q⟩ => by
    unfold ev at hf
    obtain ⟨⟨d1, e1⟩, h1, hf⟩ := Option.bind_eq_some_iff.mp hf
    obtain ⟨⟨d2, e2⟩, h2, hf⟩ := Option.bind_eq_some_iff.mp hf
    simp only at hf
    split at hf
    case h_2 => cases hf
    next n m =>
    split at hf
    case isFalse => cases hf
    next z =>
    cases hf
    obtain ⟨z1, z2, z3, z4⟩ := z
    obtain ⟨n, rfl⟩ := Int.eq_ofNat_of_zero_le z1
    obtain ⟨m, rfl⟩ := Int.eq_ofNat_of_zero_le z3
    refine ⟨ω, e, _, e1, R, h1, fun ω1 H1 v g1 R1 hv => ⟨_, hv, .of_le (by omega) (by omega) (by omega) (by omega), ω1, e1, _, _, R1, h2, fun ω2 H2 w g2 R2 hw => ⟨_, hw, .of_le (by omega) (by omega) (by omega) (by omega), ?_⟩⟩⟩
    refine ⟨by rw [List.length_append, List.append_nil, rgV_length, rgV_length, sizeLine_eq]; omega, ?_⟩
    rw [List.append_nil]
    exact fin_lst R2 (FzL.append FzL.rng FzL.rng) (Kw.grow q (g1.trans g2))
end
end MP
set_option linter.all false
set_option maxRecDepth 100000
set_option maxHeartbeats 1000000
/-! len(set(..)); t[::-1]. -/
namespace MP
open PySem PySem.Spec PyProof.Rows L2 GxR
theorem firstMet_nub (ns : List Int) : firstMet (fun i => ns.getD i 0) ns.length = nubI ns := by
  unfold firstMet nubI
  have e : (List.range ns.length).map (fun i => ns.getD i 0) = ns := by
    refine List.ext_getElem (by simp) fun i h1 h2 => ?_
    simp [List.getD_eq_getElem?_getD, h2]
  rw [e]
  rfl
theorem nub_le : ∀ (ns acc : List Int), (ns.foldl (fun acc k => if (acc.any fun z => z == k) = true then acc else acc ++ [k]) acc).length ≤ acc.length + ns.length
  | [], acc => Nat.le_refl _
  | n :: ns, acc => by
    rw [List.foldl_cons]
    refine Nat.le_trans (nub_le ns _) ?_
    rw [List.length_cons]
    split
    · omega
    · rw [List.length_append, List.length_singleton]; omega
section
variable {c : Cn} {X : Cx} {C : CallF} {ma mb : M} {a b : Expr} {pos : Pos}
def tLenSet (K : PySem.W.Frag) (ta : TE) : TE := fun σ H Q => ta σ H fun x H1 => ∃ (p : Addr) (ns : List Int), x = .ref p ∧ SqL K H1 p (ns.map V.int) ∧ ns.length ≤ 1000 ∧ Q (.int ((nubI ns).length : Nat)) H1
theorem pe_lenSet' {ta : TE} {p p2 q : Pos} (hc : X.calm = true) (hg : Gl X "len") (hm : X.mg "len" = none) (hg2 : Gl X "set") (hm2 : X.mg "set" = none) (ha : PE X a ta) (na : starEach [a] X.env = (false, eval a X.env) :: starEach [] X.env) :
    PE X (.Call (.Name "len" p) [.Call (.Name "set" p2) [a] [] q] [] pos) (tLenSet X.K ta) := ⟨fun pins s σ H Q I h => by
  refine Call_ (ld_blt I hg hm PySem.boot_len (PyProof.Rows.callWith_builtin1 (PyProof.Rows.args_cons ?_ rfl) rfl rfl))
  refine Call_ (ld_blt I hg2 hm2 PyProof.Rows.boot_set (PyProof.Rows.callWith_type1 (PyProof.Rows.args_cons (thn (ha.run pins s σ H _ I h) fun v s1 ⟨x, H1, I1, r1, l, ns, ex, hq, hl, k⟩ => PyProof.Rows.args_nil ?_) na) na rfl))
  subst ex
  cases r1
  obtain ⟨us, rv, pl, hz⟩ := I1.list hq
  have hn : us.toArray.size = ns.length := by rw [List.size_toArray, ← rv.length, List.length_map]
  refine call_set_list (I1.ok.hd hc) pl.isList (ns := ns) (by simpa using rv.ints) (by unfold scanBound; omega) fun h' tk hS hk => PyProof.Rows.args_nil ?_
  rw [hn, firstMet_nub] at hS
  obtain ⟨o, z1, z2, z3, z4, z5, z6, _, _, _, z7, z8⟩ := hS
  have I2 : Inv X pins σ H1 { s1 with heap := h', toks := tk } := I1.kept fun b o w => hk b o (Heap.lt_size w) w
  have hle := nub_le ns []
  exact call_len_set z4 z5 z6 z7 (by rw [z8]; have : (nubI ns).length ≤ 0 + ns.length := hle; omega) ⟨.int ((nubI ns).length : Nat), H1, I2.tok _, ⟨_, by rw [z8]⟩, k⟩⟩
theorem snd_lenset {p p2 q : Pos} (hK : X.K = c.K) (hc : X.calm = true) (hg : Gl X "len") (hm : X.mg "len" = none) (hg2 : Gl X "set") (hm2 : X.mg "set" = none) (ha : PE X a (TH c ma (evb C ma))) (na : starEach [a] X.env = (false, eval a X.env) :: starEach [] X.env) :
    PE X (.Call (.Name "len" p) [.Call (.Name "set" p2) [a] [] q] [] pos) (TO c (ev C (.lenset ma))) :=
  PE.imp (pe_lenSet' hc hg hm hg2 hm2 ha na) fun σ H Q ⟨ω, e, r, e', R, hf, q⟩ => by
    unfold ev at hf
    obtain ⟨⟨d, e1⟩, h1, hf⟩ := Option.bind_eq_some_iff.mp hf
    simp only at hf
    split at hf
    case h_2 => cases hf
    next xs =>
    obtain ⟨ns, h2, hf⟩ := Option.bind_eq_some_iff.mp hf
    split at hf
    case isFalse => cases hf
    next hl =>
    cases hf
    refine ⟨ω, e, _, _, R, h1, fun ω1 H1 v g1 R1 hv => ?_⟩
    obtain ⟨p, vs, rfl, h3, h4⟩ := (hv.now R1 (evb_now h1)).lst
    have := h4.ints h2
    subst this
    rw [hK]
    exact ⟨p, ns, rfl, h3, hl, fin_int R1 (Kw.grow q g1)⟩
/-! t[::-1] -/
section
variable {prog : Program} {w : World} {A : Around} {E : Value → Shared → Prop} {s : Shared}
theorem rev_applied {sl : Addr} {n : Nat} {t0 : Tok} {Q : Int × Int × Nat → Shared → Prop} (hs : s.heap.IsSliceOf sl .none .none (.int (-1) t0)) (h : Q ((n : Int) - 1, -1, n) s) : wpAny (model prog w) A (Builtin.Slice.sliceApplied (.ref sl) (pure (n : Int))) Q E s := by
  obtain ⟨ob, g1, g2, g3⟩ := id hs
  unfold Builtin.Slice.sliceApplied Builtin.Slice.sliceFields
  refine wpAny_bind (wpAny_bind (wpAny_field g1 g3 (x := .none) rfl (wpAny_bind (wpAny_field g1 g3 (x := .none) rfl (wpAny_bind (wpAny_field g1 g3 (x := .int (-1) t0) rfl (wpAny_pure ?_)))))))
  refine wpAny_bind (slicePart_int ?_)
  show wpAny _ _ (if ((-1 : Int) == 0) = true then _ else _) _ _ s
  rw [if_neg (by decide)]
  refine wpAny_bind (HT.slicePart_ (o := none) .none (wpAny_bind (HT.slicePart_ (o := none) .none (wpAny_bind (wpAny_pure ?_)))))
  have e2 : Builtin.Slice.slicePlaces ((n : Int) - 1) (-1) (-1) = n := by
    unfold Builtin.Slice.slicePlaces
    rw [if_neg (by decide)]
    have e3 : ((n : Int) - 1 - -1 - 1) / (- -1) = (n : Int) - 1 := by
      rw [show (- -1 : Int) = 1 by decide, Int.ediv_one]
      omega
    rw [e3]
    split <;> omega
  show wpAny _ _ (pure ((n : Int) - 1, (-1 : Int), Builtin.Slice.slicePlaces ((n : Int) - 1) (-1) (-1))) _ _ s
  rw [e2]
  exact wpAny_pure h
theorem fm_congr {α β : Type} {f g : α → Option β} : ∀ {l : List α}, (∀ x ∈ l, f x = g x) → l.filterMap f = l.filterMap g
  | [], _ => rfl
  | x :: l, h => by
    rw [List.filterMap_cons, List.filterMap_cons, h x List.mem_cons_self, fm_congr fun y hy => h y (List.mem_cons_of_mem _ hy)]
theorem rev_pick (xs : Array Value) : ((List.range xs.size).filterMap fun (m : Nat) => xs[(((xs.size : Int) - 1) + (m : Int) * -1).toNat]?).toArray = xs.toList.reverse.toArray := by
  congr 1
  have e3 := PySem.W.krv_all xs.toList.reverse.toArray
  have hs : xs.toList.reverse.toArray.size = xs.size := by simp
  rw [hs] at e3
  refine Eq.trans (fm_congr fun m hm => ?_) e3
  rw [List.mem_range] at hm
  have e2 : (((xs.size : Int) - 1) + (m : Int) * -1).toNat = xs.size - 1 - m := by omega
  have e4 : xs.toList.reverse.toArray[m]? = xs.toList.reverse[m]? := by simp
  rw [e2, e4, List.getElem?_reverse (by rw [Array.length_toList]; exact hm), Array.length_toList]
  exact (Array.getElem?_toList).symm
theorem getItem_rev {t sl : Addr} {items : Array Value} {t0 : Tok} {Q : Value → Shared → Prop} (ht : IsTup s.heap t items) (hs : s.heap.IsSliceOf sl .none .none (.int (-1) t0)) (hz : items.size ≤ sizeLine)
    (h : Q (.ref s.heap.objs.size) { s with heap := s.heap.push { cls := .type "tuple", data := .seq items.toList.reverse.toArray } }) : wpAny (model prog w) A (getItem (.ref t) (.ref sl)) Q E s := by
  have hso : sizeOk (.seq items.toList.reverse.toArray) := by
    show items.toList.reverse.toArray.size ≤ sizeLine
    simpa using hz
  obtain ⟨ob, g1, g2, g3⟩ := id hs
  have hT : s.TypeIs (.ref sl) "slice" := ⟨ob, g1, g2⟩
  unfold getItem
  try with_reducible refine wpAny_holding ?_
  first | refine wpAny_bind (wpAny_pure ?_) | skip
  refine wpAny_bind (wpAny_sequenceKey ht.typeIs (by decide) (wpAny_bind (wpAny_callSpecial?_slot (name := Str.ofString "__getitem__") ht.typeIs PyProof.Rows.slot_tuple_getitem (wpAny_call_entry PyProof.Rows.slot_tuple_getitem ht.typeIs entry_tuple_getitem ?_ (args_tuple_getitem _ _)))))
  show wpAny _ _ (Builtin.Tuple.tupleItemsOf (.ref t) >>= _) _ _ s
  refine wpAny_bind (tupleItemsOf_ ht (wpAny_bind (wpAny_typeOf hT ?_)))
  rw [if_pos (by decide)]
  refine wpAny_bind (rev_applied hs ?_)
  have hno : ¬ (((items.size : Int) - 1 == 0 && (-1 : Int) == 1 && items.size == items.size) = true) := by simp
  show wpAny _ _ (if ((items.size : Int) - 1 == 0 && (-1 : Int) == 1 && items.size == items.size) = true then _ else _) _ _ s
  rw [if_neg hno, rev_pick]
  first
    | exact wpAny_bind (m := Builtin.Tuple.tupleExact _) (wpAny_newObj_type (wpAny_pure ⟨_, rfl, wpAny_pure h⟩) hso)
    | exact wpAny_bind (m := Builtin.Tuple.tupleExact _) (wpAny_newObj_type (wpAny_bind (wpAny_pure (wpAny_pure ⟨_, rfl, wpAny_pure h⟩))) hso)
    | exact wpAny_bind (wpAny_bind (m := Builtin.Tuple.tupleExact _) (wpAny_newObj_type (wpAny_pure (wpAny_pure ⟨_, rfl, wpAny_pure h⟩)) hso))
    | exact wpAny_bind (wpAny_bind (m := Builtin.Tuple.tupleExact _) (wpAny_newObj_type (wpAny_pure ⟨_, rfl, wpAny_pure h⟩) hso))
end
def tRevT (K : PySem.W.Frag) (te : TE) : TE := fun σ H Q => te σ H fun x H1 => ∃ p xs, x = .ref p ∧ SqT K H1 p xs ∧ ∀ q, H1 q = none → Q (.ref q) (upd H1 q (.tup xs.reverse))
theorem pe_revT {te : TE} {k : Nat} {p1 p2 p3 : Pos} (he : PE X a te) : PE X (.Subscript a (.Slice none none (some (.UnaryOp .USub (.Constant (.int 1) k p1) p2)) p3) pos) (tRevT X.K te) := ⟨fun pins s σ H Q I h => by
  refine Subscript_ (thn (he.run pins s σ H _ I h) fun v s1 ⟨x, H1, I1, r1, q, xs, ex, hx, w⟩ => ?_)
  subst ex
  cases r1
  have hst : PO X (some (.UnaryOp .USub (.Constant (.int 1) k p1) p2)) (tPart (tUn (rU fun i => .int (-i)) (tC (.int 1)))) := po_some (pe_un un_neg pe_int)
  refine wpAny_Slice (thn (po_none.run pins s1 σ H1 (fun o G => o = none ∧ G = H1) I1 ⟨rfl, rfl⟩) fun vl s2 ⟨l, H2, I2, pl, el, e2⟩ => ?_)
  subst el e2
  refine thn (po_none.run pins s2 σ H2 (fun o G => o = none ∧ G = H2) I2 ⟨rfl, rfl⟩) fun vu s3 ⟨u, H3, I3, pu, eu, e3⟩ => ?_
  subst eu e3
  refine thn (hst.run pins s3 σ H3 (fun o G => o = some (-1) ∧ G = H3) I3 ⟨1, rfl, -1, rfl, rfl, rfl⟩) fun vs s4 ⟨o, H4, I4, ps, eo, e4⟩ => ?_
  subst eo e4
  obtain ⟨t0, rfl⟩ : ∃ t0, vs = .int (-1) t0 := by cases ps; exact ⟨_, rfl⟩
  cases pl
  cases pu
  have I5 : Inv X pins σ H4 { s4 with heap := s4.heap.push { cls := .type "slice", data := .fields #[.none, .none, .int (-1) t0] } } := I4.kept (t' := s4.toks) fun b ob q => Heap.get?_push_of_some _ q
  obtain ⟨us, r, ht, hz⟩ := I5.tuple hx
  have hlen := r.length
  refine tail_any (ops := [.ref q, .ref s4.heap.objs.size]) ht.typeIs (PyProof.Rows.slot_tuple_getitem.lookup) ?_ (by with_unfolding_all rfl)
  refine getItem_rev ht (Heap.IsSliceOf.new _ _ _ _) (by rw [List.size_toArray]; omega) ?_
  refine ⟨.ref _, _, I5.laid (t' := s4.toks) (o := .tup xs.reverse) (fun b ob q => Heap.get?_push_of_some _ q) (Nat.le_refl _) ?_, rfl, w _ (I5.hok.fresh (Nat.le_refl _))⟩
  exact ⟨by rw [List.length_reverse]; exact hz, us.reverse, r.reverse, IsTup.new _ _⟩⟩
theorem FzL.rev {F : Hp} : ∀ {ds : List MP.D} {vs : List V}, FzL c.K F ds vs → FzL c.K F ds.reverse vs.reverse
  | [], vs, h => by
    cases (show vs = [] from h)
    exact rfl
  | d :: ds, vs, ⟨v, r, e1, h1, h2⟩ => by
    subst e1
    rw [List.reverse_cons, List.reverse_cons]
    exact FzL.append (FzL.rev h2) ⟨v, [], rfl, h1, rfl⟩
theorem snd_rev {k : Nat} {p1 p2 p3 : Pos} (hK : X.K = c.K) (ha : PE X a (TH c ma (evb C ma))) : PE X (.Subscript a (.Slice none none (some (.UnaryOp .USub (.Constant (.int 1) k p1) p2)) p3) pos) (TO c (ev C (.rev ma))) :=
  PE.imp (pe_revT ha) fun σ H Q ⟨ω, e, r, e', R, hf, q⟩ => by
    unfold ev at hf
    obtain ⟨⟨d, e1⟩, h1, hf⟩ := Option.bind_eq_some_iff.mp hf
    simp only at hf
    split at hf
    case h_2 => cases hf
    next xs =>
    split at hf
    case isFalse => cases hf
    cases hf
    refine ⟨ω, e, _, _, R, h1, fun ω1 H1 v g1 R1 hv => ?_⟩
    obtain ⟨p, vs, rfl, h3, h4⟩ := (hv.now R1 (evb_now h1)).tup
    rw [hK]
    exact ⟨p, vs, rfl, h3, fin_tup R1 (FzL.rev h4) (Kw.grow q g1)⟩
end
end MP
set_option linter.all false
set_option maxRecDepth 100000
set_option maxHeartbeats 1000000
/-! Classes without __init__; a dict display of sixteen pairs. -/
namespace MP
open PySem PySem.Spec PyProof.Rows L2 GxR
/-- a class that is made without an __init__ of its own -/
structure MkB (K : PySem.W.Frag) (C : Addr) : Prop where
  makes : PySem.W.makesIn K C = true
  init : PySem.W.findIn K (.ref C) "__init__" = some (some (.builtin "object.__init__"))
  kp : PySem.W.keepIn K (.ref C) = true
def tBare (C : Addr) : TE := fun _ H Q => ∀ x dx, H x = none → H dx = none → dx ≠ x → Q (.ref x) (upd (upd H dx (.own x)) x (.ins C dx []))
section
variable {X : Cx} {C : Addr} {x : Str} {p pos : Pos}
theorem pe_bare (M : MkB X.K C) (hg : Gl X x) (hm : X.mg x = some (.ref C)) (hdb : (x == ("__debug__" : Str)) = false) : PE X (.Call (.Name x p) [] [] pos) (tBare C) := by
  refine ⟨fun pins s σ H Q I h => ?_⟩
  refine wpAny_Call_Name_kw (ld_glob I hg hm ?_ hdb)
  refine PySem.W.callWith_K0 I.kIn M.kp (wpAny_call (make_map0 I.kIn M.makes M.init (fun self => PySem.W.Looks.of_pure (PySem.W.oi_bind self)) ?_))
  have I2 := Inv.made (C := C) I
  have hq := h (s.heap.objs.size + 1) s.heap.objs.size (I.hok.fresh (Nat.le_succ _)) (I.hok.fresh (Nat.le_refl _)) (Nat.ne_of_lt (Nat.lt_succ_self _))
  have e2 : ((s.heap.push PySem.W.emptyDict).push (PySem.W.instObj C s.heap.objs.size)).get? (s.heap.objs.size + 1) = some (PySem.W.instObj C s.heap.objs.size) := by
    have := Heap.get?_push_size (s.heap.push PySem.W.emptyDict) (o := PySem.W.instObj C s.heap.objs.size) rfl
    rwa [Heap.size_push] at this
  have top := (PySem.W.makes_of (M := model X.prog X.w) I2.kIn M.makes).top
  have t2 : PySem.W.Looks (model X.prog X.w) ((s.heap.push PySem.W.emptyDict).push (PySem.W.instObj C s.heap.objs.size)) (isInstance (.ref (s.heap.objs.size + 1)) (.type "object")) true := (NwA.type_at e2 rfl).andThen top
  refine codeAny_call_builtin PySem.W.oi_plain PySem.W.entry_oi (@PySem.W.check_slot (model X.prog X.w) _ _ _ "object.__init__" "object" "__init__" (.ref (s.heap.objs.size + 1)) [] [] _ PySem.W.oi_kind PySem.W.oi_split t2 (NwA.oi_args_any _ [] []) ?_)
  rw [PySem.W.oi_run]
  exact wpAny_pure (And.intro rfl ⟨V.ref (s.heap.objs.size + 1), _, I2, rfl, hq⟩)
end
/-- the pairs of a long display, stored one by one -/
def tFill : List (TE × TE) → Addr → List (Key × V) → L2.St → Hp → VK → Prop
  | [], p, _, _, H, Q => Q (.ref p) H
  | (tk, tv) :: r, p, kvs, σ, H, Q => tk σ H fun x H1 => tv σ H1 fun y H2 => H2 p = some (.dK kvs) ∧ ∃ k, x = kV k ∧ tFill r p (putK kvs k y) σ (upd H2 p (.dK (putK kvs k y))) Q
def tDispB (trs : List (TE × TE)) : TE := fun σ H Q => ∀ p, H p = none → tFill trs p [] σ (upd H p (.dK [])) Q
structure PFs (X : Cx) (pos : Pos) (keys : List (Option Expr)) (values : List Expr) (trs : List (TE × TE)) : Prop where
  run : ∀ (pins : List (Addr × Obj)) (s : Shared) (σ : L2.St) (H : Hp) (p : Addr) (kvs : List (Key × V)) (Q : VK), Inv X pins σ H s → kvs.length + trs.length ≤ 100 → tFill trs p kvs σ H Q →
    wpAny (model X.prog X.w) X.A (forIn (pairTrees keys values X.env pos) PUnit.unit fun (x : Sem Value × Sem Value) (_ : PUnit) => (do let kv ← x.1; let vv ← holding [kv] x.2; holding [kv, vv] (dictSet p kv vv); pure (ForInStep.yield PUnit.unit) : Sem (ForInStep PUnit)))
      (fun _ s' => ∃ H', Inv X pins σ H' s' ∧ Q (.ref p) H') X.xe s
section
variable {X : Cx} {pos : Pos} {k v : Expr} {keys ks : List (Option Expr)} {values vs : List Expr} {tk tv : TE} {trs : List (TE × TE)}
theorem pfs_nil : PFs X pos [] [] [] := ⟨fun pins s σ H p kvs Q I hl h => by
  show wpAny _ _ (forIn [] _ _) _ _ _
  rw [List.forIn_nil]
  exact wpAny_pure ⟨H, I, h⟩⟩
theorem pfs_cons (hk : PE X k tk) (hv : PE X v tv) (hr : PFs X pos ks vs trs) : PFs X pos (some k :: ks) (v :: vs) ((tk, tv) :: trs) := ⟨fun pins s σ H p kvs Q I hl h => by
  show wpAny _ _ (forIn ((eval k X.env, do let x ← eval v X.env; standAt pos; pure x) :: pairTrees ks vs X.env pos) _ _) _ _ _
  rw [List.forIn_cons]
  refine wpAny_bind (wpAny_bind (thn (hk.run pins s σ H _ I h) fun u s1 ⟨x, H1, I1, rx, q1⟩ => ?_))
  refine wpAny_bind (wpAny_holding (wpAny_bind (thn (hv.run pins s1 σ H1 _ I1 q1) fun w2 s2 ⟨y, H2, I2, ry, e, kk, ex, q2⟩ => wpAny_bind (wpAny_standAt (wpAny_pure ?_)))))
  subst ex
  obtain ⟨z, hd, vs0, r0, dd⟩ := dk_of I2.hok e
  rw [List.length_cons] at hl
  refine wpAny_bind (wpAny_holding (wpAny_dictSet_pairs (hsz := by rw [← r0.length]; exact z) (kV_is rx) dd fun h' dd' hs => wpAny_pure ?_))
  have he : ∃ q, h'.get? p = some q := let ⟨q, _, _, hq, _⟩ := dd'; ⟨q, hq⟩
  have hz : (putK kvs kk y).length ≤ sizeLine := by
    have h2 := length_putK kvs kk y
    rw [sizeLine_eq]; omega
  refine hr.run pins _ σ _ p _ Q (d_write (t' := s2.toks + 1) I2 (by rw [e]; exact True.intro) hs he (dk_new hz hd (r0.put kk ry) dd')) ?_ q2
  have h2 := length_putK kvs kk y
  omega⟩
theorem pe_dispB (h : PFs X pos keys values trs) (hall : keys.all (·.isSome) = true) (hl : keys.length = values.length) (h0 : keys ≠ []) (h15 : 15 < keys.length) (h17 : keys.length < 17) (ht : trs.length ≤ 100) : PE X (.Dict keys values pos) (tDispB trs) := by
  refine ⟨fun pins s σ H Q I q => ?_⟩
  have hn := I.hok.fresh (Nat.le_refl s.heap.objs.size)
  have I1 := I.laid (a := s.heap.objs.size) (o := .dK []) (h' := s.heap.push { cls := .type "dict", data := .dict #[] }) (t' := s.toks) (fun _ _ q => Heap.get?_push_of_some _ q) (Nat.le_refl _) (dk_empty s.heap I.big)
  have hpl := pairTrees_length keys values X.env pos hall hl
  rw [arm_eval_Dict, zip_pairTrees keys values X.env pos hall hl, dictDisplay_pairs _ (fun z => by rw [z] at hpl; simp at hpl; omega) (by omega)]
  refine wpAny_bind (wpAny_standAt (wpAny_bind ?_))
  unfold subDict
  refine wpAny_bind (wpAny_alloc ?_)
  refine wpAny_bind (wpAny_holding ?_)
  rw [if_neg (by omega)]
  have hf := h.run pins _ σ _ _ [] Q I1 (by simpa using ht) (q _ hn)
  refine wpAny_bind (wpAny_rule (wpAny_bind (thn hf fun _ s2 hq => wpAny_pure ?_)))
  obtain ⟨H2, I2, q2⟩ := hq
  exact wpAny_pure (wpAny_pure ⟨V.ref s.heap.objs.size, H2, I2, rfl, q2⟩)
end
end MP
set_option linter.all false
set_option maxRecDepth 100000
set_option maxHeartbeats 1000000
/-! kind_of(word): a table of new objects, and one of them. -/
namespace MP
open PySem PySem.Spec PyProof.Rows L2 GxR
/-- a new instance of the class that the table tells -/
def spKind (c : Cn) (tbl : List (Str × Str)) : Sp := fun vs H Q _ => ∃ w cl, vs = [.str w] ∧ tbl.lookup w = some cl ∧
  ∀ H1 x dx, (∀ a o, H a = some o → H1 a = some o) → H x = none → H1 x = some (.ins (c.cls cl) dx []) → H1 dx = some (.own x) → Q (.ref x) H1
def trOf (c : Cn) (q : Str × Str) : TE × TE := (tC (.str q.1), tBare (c.cls q.2))
/-- the pairs as they are made: H0 is the heap at the start -/
def Made (c : Cn) (H0 H : Hp) : List (Str × Str) → List (Key × V) → Prop
  | [], ks => ks = []
  | (w, cl) :: r, ks => ∃ x dx s, ks = (.inr w, .ref x) :: s ∧ H0 x = none ∧ H x = some (.ins (c.cls cl) dx []) ∧ H dx = some (.own x) ∧ Made c H0 H r s
section
variable {c : Cn} {H0 H H' : Hp} {w cl : Str}
theorem Made.mono (h1 : ∀ a C dx, H a = some (.ins C dx []) → H' a = some (.ins C dx [])) (h2 : ∀ a x, H a = some (.own x) → H' a = some (.own x)) : ∀ {tbl : List (Str × Str)} {ks : List (Key × V)}, Made c H0 H tbl ks → Made c H0 H' tbl ks
  | [], ks, h => h
  | (w, cl) :: r, ks, ⟨x, dx, s, e, k1, k2, k3, k4⟩ => ⟨x, dx, s, e, k1, h1 _ _ _ k2, h2 _ _ k3, Made.mono h1 h2 k4⟩
theorem Made.none : ∀ {tbl : List (Str × Str)} {ks : List (Key × V)}, Made c H0 H tbl ks → w ∉ tbl.map (·.1) → valV ks (.inr w) = none
  | [], ks, h, _ => by
    cases (show ks = [] from h)
    rfl
  | (w', cl) :: r, ks, ⟨x, dx, s, e, k1, k2, k3, k4⟩, h => by
    subst e
    rw [List.map_cons, List.mem_cons, not_or] at h
    rw [valV_neg (fun z => h.1 (by injection z with z; exact z.symm))]
    exact Made.none k4 h.2
theorem Made.look : ∀ {tbl : List (Str × Str)} {ks : List (Key × V)}, Made c H0 H tbl ks → tbl.lookup w = some cl → ∃ x dx, valV ks (.inr w) = some (.ref x) ∧ H0 x = .none ∧ H x = some (.ins (c.cls cl) dx []) ∧ H dx = some (.own x)
  | [], ks, h, l => by cases l
  | (w', cl') :: r, ks, ⟨x, dx, s, e, k1, k2, k3, k4⟩, l => by
    subst e
    rw [lkc] at l
    by_cases z : w = w'
    · rw [if_pos z] at l
      cases l
      exact ⟨x, dx, valV_pos (by rw [z]), k1, k2, k3⟩
    · rw [if_neg z] at l
      obtain ⟨x', dx', q1, q2⟩ := Made.look k4 l
      exact ⟨x', dx', by rw [valV_neg (fun y => z (by injection y with y; exact y.symm))]; exact q1, q2⟩
theorem Made.snoc {x dx : Addr} (k1 : H0 x = .none) (k2 : H x = some (.ins (c.cls cl) dx [])) (k3 : H dx = some (.own x)) : ∀ {tbl : List (Str × Str)} {ks : List (Key × V)}, Made c H0 H tbl ks → Made c H0 H (tbl ++ [(w, cl)]) (ks ++ [(.inr w, .ref x)])
  | [], ks, h => by
    cases (show ks = [] from h)
    exact ⟨x, dx, [], rfl, k1, k2, k3, rfl⟩
  | (w', cl') :: r, ks, ⟨x', dx', s, e, j1, j2, j3, j4⟩ => by
    subst e
    exact ⟨x', dx', _, rfl, j1, j2, j3, Made.snoc k1 k2 k3 j4⟩
theorem fill_ok {p : Addr} {σ : L2.St} {Q : VK} (hp : H0 p = .none) : ∀ (r d : List (Str × Str)) (ks : List (Key × V)) (H : Hp), ((d ++ r).map (·.1)).Nodup → Made c H0 H d ks → H p = some (.dK ks) → (∀ a o, H0 a = some o → H a = some o) →
    (∀ H' ks', Made c H0 H' (d ++ r) ks' → H' p = some (.dK ks') → (∀ a o, H0 a = some o → H' a = some o) → Q (.ref p) H') → tFill (r.map (trOf c)) p ks σ H Q
  | [], d, ks, H, nd, m, e, ext, q => q H ks (by rw [List.append_nil]; exact m) e ext
  | (w, cl) :: r, d, ks, H, nd, m, e, ext, q => by
    show ∀ x dx, H x = none → H dx = none → dx ≠ x → _
    intro x dx hx hdx hne
    have px : p ≠ x := fun z => by rw [z, hx] at e; cases e
    have pdx : p ≠ dx := fun z => by rw [z, hdx] at e; cases e
    have e2 : (upd (upd H dx (.own x)) x (.ins (c.cls cl) dx [])) p = some (.dK ks) := by rw [upd_ne px, upd_ne pdx]; exact e
    refine ⟨e2, .inr w, rfl, ?_⟩
    have hw : w ∉ d.map (·.1) := fun hm => by
      rw [List.map_append, List.map_cons, List.nodup_append] at nd
      exact nd.2.2 w hm w List.mem_cons_self rfl
    rw [putK_new _ (m.none hw)]
    have kp : ∀ a o, H a = some o → a ≠ p → (upd (upd (upd H dx (.own x)) x (.ins (c.cls cl) dx [])) p (.dK (ks ++ [(.inr w, .ref x)]))) a = some o := fun a o h z => by
      rw [upd_ne z, upd_ne (fun y => by rw [y, hx] at h; cases h), upd_ne (fun y => by rw [y, hdx] at h; cases h)]
      exact h
    have nH : ∀ {a o}, H a = some o → (∀ ks, o ≠ .dK ks) → a ≠ p := fun {a o} h n z => by
      rw [z, e] at h
      cases h
      exact n _ rfl
    have h0x : H0 x = .none := by
      cases q : H0 x with
      | none => rfl
      | some o => rw [ext _ _ q] at hx; cases hx
    refine fill_ok hp r (d ++ [(w, cl)]) _ _ (by rw [List.append_assoc]; exact nd) (Made.snoc (dx := dx) h0x ?_ ?_ (m.mono (fun a C dx h => kp a _ h (nH h fun _ z => by cases z)) fun a y h => kp a _ h (nH h fun _ z => by cases z))) upd_same (fun a o h => kp a o (ext a o h) fun z => by rw [z, hp] at h; cases h) fun H' ks' m' => q H' ks' (by rw [List.append_assoc] at m'; exact m')
    · rw [upd_ne (Ne.symm px), upd_same]
    · rw [upd_ne (Ne.symm pdx), upd_ne hne, upd_same]
theorem disp_kind {tbl : List (Str × Str)} {σ : L2.St} {Q : VK} (nd : (tbl.map (·.1)).Nodup) (h : ∀ p ks H', H p = none → Made c H H' tbl ks → H' p = some (.dK ks) → (∀ a o, H a = some o → H' a = some o) → Q (.ref p) H') : tDispB (tbl.map (trOf c)) σ H Q := fun p hp =>
  fill_ok hp tbl [] [] _ nd rfl upd_same (fun a o q => by rw [upd_ne (fun z => by rw [z, hp] at q; cases q)]; exact q) fun H' ks' m e x => h p ks' H' hp m e x
end
end MP
set_option linter.all false
set_option maxRecDepth 100000
set_option maxHeartbeats 1000000
/-! kind_of(word).m(..): the method of an object whose class is one of several. -/
namespace MP
open PySem PySem.Spec PyProof.Rows L2 GxR
section
variable {c : Cn} {σ : L2.St} {H H1 : Hp} {ω : Om} {e : Env'} {x : Addr}
/-- the heap has more -/
theorem Rel.more {u : HO} {l : Lb} (R : Rel c ω σ H e) (hx : H x = none) (hk : ∀ a o, H a = some o → H1 a = some o) (h1 : H1 x = some u) (hm : Mut (some u)) :
    Rel c (fun a => if a = x then some l else ω a) σ H1 e ∧ Grow H ω H1 (fun a => if a = x then some l else ω a) := by
  have ne : ∀ a o, H a = some o → a ≠ x := fun a o e z => by rw [z, hx] at e; cases e
  have G : Grow H ω H1 (fun a => if a = x then some l else ω a) := ⟨fun a o e _ _ => hk a o e, fun a ps e => ⟨ps, hk a _ e⟩, fun a o e _ => if_neg (ne a o e)⟩
  refine ⟨⟨R.len, fun i o h => ?_, fun P hP => ?_, fun a l' h => ?_⟩, G⟩
  · obtain ⟨v, h1, h2⟩ := R.slot i o h
    refine ⟨v, h1, h2.grow G.up fun a o f e1 e2 => ⟨hk a o e1, ?_⟩⟩
    show (if a = x then some l else ω a) = _
    rw [if_neg (ne a o e1)]; exact e2
  · obtain ⟨⟨ps, e1, e2⟩, h⟩ := R.tab P hP
    refine ⟨⟨ps, hk P _ e1, e2⟩, ?_⟩
    show (if P = x then some l else ω P) = none
    rw [if_neg (ne P _ e1)]; exact h
  · have h : (if a = x then some l else ω a) = some l' := h
    by_cases z : a = x
    · exact ⟨u, by rw [z]; exact h1, hm⟩
    · rw [if_neg z] at h
      obtain ⟨o, e1, e2⟩ := R.own a l' h
      exact ⟨o, hk a o e1, e2⟩
/-- another label for one thing -/
def setAt (ω : Om) (x : Addr) (l : Lb) : Om := fun a => if a = x then some l else ω a
theorem setAt_up {l l0 : Lb} (h : ω x = some l0) : Up (fr H ω) (fr H (setAt ω x l)) := fun a o e n => by
  obtain ⟨h1, h2⟩ := fr_some.mp e
  refine fr_some.mpr ⟨?_, h2⟩
  unfold setAt
  rw [if_neg (fun z => by rw [z, h] at h1; cases h1)]
  exact h1
theorem Rel.setAt {l : Lb} {j : Nat} {f : Option Str} (R : Rel c ω σ H e) (h : ω x = some (.fly j, f)) : Rel c (MP.setAt ω x l) σ H e := by
  refine ⟨R.len, fun i o q => ?_, fun P hP => ⟨(R.tab P hP).1, ?_⟩, fun a l' q => ?_⟩
  · obtain ⟨v, h1, h2⟩ := R.slot i o q
    refine ⟨v, h1, h2.grow (setAt_up h) fun a o f e1 e2 => ⟨e1, ?_⟩⟩
    unfold MP.setAt
    rw [if_neg (fun z => by rw [z, h] at e2; cases e2)]
    exact e2
  · unfold MP.setAt
    rw [if_neg (fun z => by have := (R.tab P hP).2; rw [z, h] at this; cases this)]
    exact (R.tab P hP).2
  · unfold MP.setAt at q
    by_cases z : a = x
    · rw [z]; exact R.own x _ h
    · rw [if_neg z] at q; exact R.own a l' q
theorem Grow.setAt {H0 : Hp} {ω0 : Om} {l : Lb} (g : Grow H0 ω0 H ω) (hx : H0 x = none) : Grow H0 ω0 H (MP.setAt ω x l) :=
  ⟨g.keep, g.tbl, fun a o q p => by
    unfold MP.setAt
    rw [if_neg (fun z => by rw [z, hx] at q; cases q)]
    exact g.lab a o q p⟩
/-- more slots: the arguments stay -/
theorem args_ext {os : List O} {is : List (Option Nat)} {vs : List V} {v : V} {o : O} (A : Args' c σ H ω e os is vs) : Args' c (σ ++ [some v]) H ω (e ++ [some o]) os is vs := by
  refine ⟨A.l1, A.l2, A.dat, fun j i o' u h1 h2 h3 => ?_⟩
  obtain ⟨k1, k2⟩ := A.bor j i o' u h1 h2 h3
  exact ⟨by rw [List.getElem?_append_left (List.getElem?_eq_some_iff.mp k1).1]; exact k1, by rw [List.getElem?_append_left (List.getElem?_eq_some_iff.mp k2).1]; exact k2⟩
theorem args_up {os : List O} {is : List (Option Nat)} {vs : List V} {ω' : Om} (A : Args' c σ H ω e os is vs) (u : Up (fr H ω) (fr H ω')) : Args' c σ H ω' e os is vs :=
  ⟨A.l1, A.l2, fun j o v h1 h2 h3 => let ⟨d, k1, k2⟩ := A.dat j o v h1 h2 h3; ⟨d, k1, Fz.up u _ _ k2⟩, A.bor⟩
theorem bor_lt {os : List O} {is : List (Option Nat)} {vs : List V} (A : Args' c σ H ω e os is vs) : ∀ i ∈ is.filterMap id, i < e.length := fun i hi => by
  obtain ⟨y, h1, h2⟩ := List.mem_filterMap.mp hi
  obtain ⟨j, h3⟩ := List.mem_iff_getElem?.mp h1
  have h2 : y = some i := h2
  subst h2
  have hj : j < os.length := by rw [← A.l1]; exact (List.getElem?_eq_some_iff.mp h3).1
  obtain ⟨_, k⟩ := A.bor j i _ _ h3 (List.getElem?_eq_getElem hj) (List.getElem?_eq_getElem (by rw [A.l2]; exact hj))
  exact (List.getElem?_eq_some_iff.mp k).1
theorem putBack_app {x : Option O} : ∀ {is : List (Option Nat)} {fs : List (Option O)} {e e' : Env'}, (∀ i ∈ is.filterMap id, i < e.length) → putBack is fs e = some e' → putBack is fs (e ++ [x]) = some (e' ++ [x])
  | [], fs, e, e', _, h => by
    unfold putBack at h ⊢
    cases h
    rfl
  | none :: r, [], e, e', _, h => by
    unfold putBack at h
    cases h
  | none :: r, f :: fs, e, e', hl, h => by
    unfold putBack at h ⊢
    exact putBack_app (fun i hi => hl i (by simpa using hi)) h
  | some i :: r, [], e, e', _, h => by
    unfold putBack at h
    cases h
  | some i :: r, none :: fs, e, e', _, h => by
    unfold putBack at h
    cases h
  | some i :: r, some o :: fs, e, e', hl, h => by
    unfold putBack at h ⊢
    have hi : i < e.length := hl i (by simp)
    have e1 : putO (e ++ [x]) i o = putO e i o ++ [x] := by
      unfold putO
      rw [List.set_append_left _ _ hi]
    rw [e1]
    exact putBack_app (fun j hj => by
      have := hl j (by simp at hj ⊢; exact .inr hj)
      unfold putO
      rw [List.length_set]
      exact this) h
end
section
variable {X : Cx} {o e : Expr} {es : List Expr} {m : Str} {apos pos : Pos} {ta : TE} {t : TA} {k : Nat}
/-- o.m(..), o an instance of one of several classes -/
def tMethD (X : Cx) (k : Nat) (m : Str) (ta : TE) (t : TA) : TE := fun σ H Q => ta σ H fun x H1 => ∃ (a C dx : Addr) (fs : List (Str × V)) (g : Addr) (fd : FuncData) (ps : List Str) (sp : Sp), x = .ref a ∧ H1 a = some (.ins C dx fs) ∧ Cls X.K C ∧ Meth X.K C m g ∧
  FnOk X.prog X.w X.K X.mg X.base CX0 k g fd ps sp ∧ Binds X.K fd ps [] ∧ fs.lookup m = none ∧ t σ H1 fun vs H2 => sp (.ref a :: (vs ++ [])) H2 Q E0
theorem pe_methD {pl : Sem Bool} (he : PE X o ta) (hr : Room k X.A) (ha : PA X (e :: es) t)
    (hst : starEach (e :: es) X.env = (false, eval e X.env) :: starEach es X.env) (hpl : (backTo pos (starEach es X.env)).any (·.1) = false)
    (ht : eval (.Call (.Attribute o m apos) (e :: es) [] pos) X.env = (do
      let ov ← eval o X.env
      standAt apos.atName
      let (f, first) ← holding [ov] (getMethod ov m pl)
      callWith pos f first (backTo pos (starEach (e :: es) X.env)) (backToKw pos (keywordEach [] X.env)))) :
    PE X (.Call (.Attribute o m apos) (e :: es) [] pos) (tMethD X k m ta t) := by
  refine ⟨fun pins s σ H Q I h => ?_⟩
  refine PySem.W.methodCall_KW (pl := pl) (thn (he.run pins s σ H _ I h) fun u s1 ⟨x, H1, I1, rx, a, C, dx, fs, g, fd, ps, sp, ex, ea, c, hm, F, hb, l, q⟩ => ?_) ht
  subst ex
  obtain rfl : u = Value.ref a := rx
  refine getmeth_ok I1 ea c hm l ?_
  refine PySem.W.callWith_K (first := [.ref a]) (h₀ := X.base) I.ok.mod.kin hm.kp (thn (ha.run pos pins s1 σ H1 _ I1 q) fun us s2 ⟨vs, H2, I2, r, q2⟩ => ⟨I2.kIn, ?_⟩) hst hpl
  exact run_fn (us := .ref a :: us) (vs := .ref a :: vs) F hr hb .nil pass0 I2 (.cons rfl r) q2
end
end MP
set_option linter.all false
set_option maxRecDepth 100000
set_option maxHeartbeats 1000000
/-! kind_of(word).m(..), gcd(..), d.get(k) of the small language. -/
namespace MP
open PySem PySem.Spec PyProof.Rows L2 GxR
section
variable {c : Cn} {X : Cx} {C : CallF} {a : M} {xs : Ms} {e : Expr} {es : List Expr} {fx m : Str} {ents : List (Str × (Str × Nat))} {tbl : List (Str × Str)} {k : Nat}
/-- what is known of the methods that the table leads to -/
def MethOk (c : Cn) (X : Cx) (C : CallF) (k : Nat) (m cl : Str) (fi : Nat) : Prop := ∃ g fd ps, Cls X.K (c.cls cl) ∧ Meth X.K (c.cls cl) m g ∧ FnOk X.prog X.w X.K X.mg X.base CX0 k g fd ps (spOf c (C fi)) ∧ Binds X.K fd ps []
theorem tkcall_ok {σ : L2.St} {H : Hp} {Q : VK} (he : ∀ w cl fi, ents.lookup w = some (cl, fi) → tbl.lookup w = some cl ∧ MethOk c X C k m cl fi) (h : TO c (ev C (.kcall fx m a ents xs)) σ H Q) :
    tMethD X k m (tCall (spKind c tbl) [] E0 (TL c (evs C (.cons a .nil)))) (TAg c (evas C xs)) σ H Q := by
  obtain ⟨ω, e, r, e', R, hf, q⟩ := h
  unfold ev at hf
  obtain ⟨⟨d, e1⟩, h1, hf⟩ := Option.bind_eq_some_iff.mp hf
  simp only at hf
  split at hf
  case h_2 => cases hf
  next w =>
  obtain ⟨⟨cl, fi⟩, h2, hf⟩ := Option.bind_eq_some_iff.mp hf
  obtain ⟨⟨⟨os, is⟩, e2⟩, h3, hf⟩ := Option.bind_eq_some_iff.mp hf
  simp only at hf
  split at hf
  case isFalse => cases hf
  next nd =>
  obtain ⟨⟨rs, r'⟩, h4, hf⟩ := Option.bind_eq_some_iff.mp hf
  simp only at hf
  split at hf
  case h_2 => cases hf
  next o' tl =>
  obtain ⟨e3, h5, hf⟩ := Option.map_eq_some_iff.mp hf
  cases hf
  obtain ⟨ht, g, fd, ps, m1, m2, m3, m4⟩ := he w cl fi h2
  refine ⟨ω, e, [.str w], e1, R, ?_, fun ω1 H1 vs g1 R1 hvs => ?_⟩
  · unfold evs
    rw [h1]
    unfold evs
    rfl
  obtain ⟨v, r0, rfl, hv, hr0⟩ := hvs
  cases (show r0 = [] from hr0)
  obtain rfl : v = .str w := hv
  refine ⟨w, cl, rfl, ht, fun H2 x dx ext hx hx2 hdx => ?_⟩
  refine ⟨x, _, dx, [], g, fd, ps, spOf c (C fi), rfl, hx2, m1, m2, m3, m4, rfl, ?_⟩
  obtain ⟨R2, G2⟩ := R1.more (l := (.fly 0, none)) hx ext hx2 trivial
  refine ⟨_, e1, _, e2, R2, h3, fun ω3 H3 vs g3 R3 A => ?_⟩
  show spOf c (C fi) (.ref x :: (vs ++ [])) H3 Q E0
  rw [List.append_nil]
  have lx : (fun b => if b = x then some (Ow.fly 0, (none : Option Str)) else ω1 b) x = some (.fly 0, none) := if_pos rfl
  have px : Prot ((fun b => if b = x then some (Ow.fly 0, (none : Option Str)) else ω1 b) x) := by rw [lx]; trivial
  have h3x : H3 x = some (.ins (c.cls cl) dx []) := g3.keep x _ hx2 px fun ps z => by cases z
  have l3x : ω3 x = some (.fly 0, none) := (g3.lab x _ hx2 px).trans lx
  have R4 := R3.setAt (l := (.sl e2.length, none)) l3x
  have rep0 := R4.ext (o := .ins cl []) (v := .ref x) rfl ⟨x, dx, [], rfl, h3x, if_pos rfl, rfl, fun f => rfl⟩
  have hsx : (σ ++ [some (V.ref x)])[e2.length]? = some (some (V.ref x)) := by
    rw [List.getElem?_append_right (by rw [R3.len]; exact Nat.le_refl _), R3.len]
    simp
  have A' := args_bor (i := e2.length) (args_ext (v := .ref x) (o := .ins cl []) (args_up A (setAt_up (H := H3) (l := (.sl e2.length, none)) l3x))) hsx (getE_app rfl)
  have nd' : ((some e2.length :: is).filterMap id).Nodup := by
    show (e2.length :: is.filterMap id).Nodup
    exact List.nodup_cons.mpr ⟨fun z => absurd (bor_lt A _ z) (Nat.lt_irrefl _), nd⟩
  refine ⟨_, _, _, _, rel_in rep0 A' nd', h4, fun ω5 H5 v g5 R5 rep => ?_⟩
  have hp : putBack (some e2.length :: is) (some o' :: tl) (e2 ++ [some (.ins cl [])]) = some (e' ++ [some o']) := by
    unfold putBack
    have e1 : putO (e2 ++ [some (O.ins cl [])]) e2.length o' = e2 ++ [some o'] := by
      unfold putO
      rw [List.set_append_right _ _ (Nat.le_refl _), Nat.sub_self]
      rfl
    rw [e1]
    exact putBack_app (bor_lt A) h5
  obtain ⟨G, R6, rep', _⟩ := rel_out rep0 A' nd' g5 R5 rep hp
  have el : e'.length = e2.length := (putBack_some h5).1
  have G4 : Grow H1 ω1 H3 (setAt ω3 x (.sl e2.length, none)) := (G2.trans g3).setAt hx
  refine q _ H5 v ((g1.trans G4).trans G) (R6.weak (by rw [R3.len, el]) fun i o hi => ?_) rep'
  have hl : i < e'.length := (List.getElem?_eq_some_iff.mp hi).1
  exact ⟨by rw [List.getElem?_append_left hl]; exact hi, by rw [List.getElem?_append_left (by rw [R3.len, ← el]; exact hl)]⟩
/-- with a fact that the reading itself gives -/
theorem PE.of {t : TE} {P : Prop} (hP : ∀ σ H Q, t σ H Q → P) (h : P → PE X e t) : PE X e t := ⟨fun pins s σ H Q I q => (h (hP σ H Q q)).run pins s σ H Q I q⟩
/-- a call was made -/
def Calls1 (C : CallF) : Prop := ∃ f os r, C f os = some r
theorem calls_of {σ : L2.St} {H : Hp} {Q : VK} (h : TO c (ev C (.kcall fx m a ents xs)) σ H Q) : Calls1 C := by
  obtain ⟨ω, e, r, e', R, hf, q⟩ := h
  unfold ev at hf
  obtain ⟨⟨d, e1⟩, h1, hf⟩ := Option.bind_eq_some_iff.mp hf
  simp only at hf
  split at hf
  case h_2 => cases hf
  obtain ⟨⟨cl, fi⟩, h2, hf⟩ := Option.bind_eq_some_iff.mp hf
  obtain ⟨⟨⟨os, is⟩, e2⟩, h3, hf⟩ := Option.bind_eq_some_iff.mp hf
  simp only at hf
  split at hf
  case isFalse => cases hf
  obtain ⟨r1, h4, hf⟩ := Option.bind_eq_some_iff.mp hf
  exact ⟨_, _, _, h4⟩
variable {p apos pos cpos : Pos} {f : Addr} {fd : FuncData} {ps : List Str} {ea : Expr}
theorem snd_kcall {pl : Sem Bool} (F : FnOk X.prog X.w X.K X.mg X.base CX0 k f fd ps (spKind c tbl)) (hr : Room k X.A) (hg : Gl X fx) (hm : X.mg fx = some (.ref f)) (hk : PySem.W.keepIn X.K (.ref f) = true) (hb : Binds X.K fd ps []) (hdb : (fx == ("__debug__" : Str)) = false)
    (he : ∀ w cl fi, ents.lookup w = some (cl, fi) → tbl.lookup w = some cl ∧ MethOk c X C k m cl fi) (ha : PE X ea (TD c fun e => lift (ev C a e))) (hea : starEach [ea] X.env = (false, eval ea X.env) :: starEach [] X.env) (hx : PA X (e :: es) (TAg c (evas C xs)))
    (hst : starEach (e :: es) X.env = (false, eval e X.env) :: starEach es X.env) (hpl : (backTo pos (starEach es X.env)).any (·.1) = false)
    (ht : eval (.Call (.Attribute (.Call (.Name fx p) [ea] [] cpos) m apos) (e :: es) [] pos) X.env = (do
      let ov ← eval (.Call (.Name fx p) [ea] [] cpos) X.env
      standAt apos.atName
      let (f, first) ← holding [ov] (getMethod ov m pl)
      callWith pos f first (backTo pos (starEach (e :: es) X.env)) (backToKw pos (keywordEach [] X.env)))) :
    PE X (.Call (.Attribute (.Call (.Name fx p) [ea] [] cpos) m apos) (e :: es) [] pos) (TO c (ev C (.kcall fx m a ents xs))) :=
  PE.imp (pe_methD (pe_call F hr hg hm hk hb .nil pass0 (snd_cons ha snd_nil hea) hdb hea (by rfl)) hr hx hst hpl ht) fun σ H Q h => tkcall_ok he h
/-! gcd -/
theorem snd_gcd {x : Str} (hg : Gl X x) (hm : X.mg x = some (.builtin "math.gcd")) (hdb : (x == ("__debug__" : Str)) = false) (ha : PA X (e :: es) (TL c (evs C xs)))
    (hst : starEach (e :: es) X.env = (false, eval e X.env) :: starEach es X.env) (hpl : (backTo pos (starEach es X.env)).any (·.1) = false) : PE X (.Call (.Name x p) (e :: es) [] pos) (TO c (ev C (.gcd xs))) :=
  PE.imp (pe_callBfun cr_gcd hg hm ha hdb hst hpl) fun σ H Q ⟨ω, e, r, e', R, hf, q⟩ => by
    unfold ev at hf
    obtain ⟨⟨ds, e1⟩, h1, hf⟩ := Option.bind_eq_some_iff.mp hf
    simp only at hf
    split at hf
    case h_2 => cases hf
    next i j =>
    cases hf
    refine ⟨ω, e, _, _, R, h1, fun ω1 H1 vs g1 R1 hvs => ?_⟩
    obtain ⟨v, r0, rfl, k1, v2, r1, rfl, k2, k3⟩ := hvs
    cases (show r1 = [] from k3)
    obtain rfl : v = .int i := k1
    obtain rfl : v2 = .int j := k2
    exact ⟨i, j, rfl, fin_int R1 (Kw.grow q g1)⟩
/-! d.get(k) -/
theorem snd_getDN {i : Nat} {x : Str} {px : Pos} (hu : X.A.units + 1 < cLine) (hN : X.N[i]? = some x) (hv : Vis X.env.scope x) (hd : (x == ("__debug__" : Str)) = false) (hcd : (x == ("__classdict__" : Str)) = false) (ha : PE X ea (TD c fun e => lift (ev C a e))) (hm : M1 X (.Name x px) "get" apos ea pos) :
    PE X (.Call (.Attribute (.Name x px) "get" apos) [ea] [] pos) (TO c (ev C (.getDN i a))) := PE.imp (pe_dget1 hu (pe_var hN hv hd hcd) ha hm) fun σ H Q ⟨ω, e, r, e', R, hf, q⟩ => by
  unfold ev at hf
  split at hf
  case isFalse => cases hf
  next h0 =>
  obtain ⟨kvs0, hk0⟩ := Option.isSome_iff_exists.mp h0
  obtain ⟨p0, ks0, hv0, hp0, _⟩ := own_dct R hk0
  obtain ⟨⟨d, e1⟩, h1, hf⟩ := Option.bind_eq_some_iff.mp hf
  obtain ⟨kvs, h2, hf⟩ := Option.bind_eq_some_iff.mp hf
  split at hf
  case isFalse => cases hf
  next hk =>
  cases hf
  refine ⟨_, hv0, p0, rfl, .inl ⟨ks0, .inl hp0⟩, ω, e, d, _, R, h1, fun ω1 H1 v g1 R1 hv => ?_⟩
  obtain ⟨p, ks, k1, k2, k3, k4⟩ := own_dct R1 h2
  rw [hv0] at k1
  cases k1
  obtain ⟨kq, k5, k6⟩ := keyV_key (c := c) hk
  have l : match lookK kvs d with
    | some d => ∃ v, valV ks kq = some v ∧ Fz c.K (fr H1 ω1) d v
    | none => valV ks kq = none := FzK.look k5 k4
  refine ⟨valV ks kq, by rw [k6 _ _ hv]; exact .k k2, ?_⟩
  cases z : lookK kvs d with
  | none =>
    rw [z] at l
    have l : valV ks kq = none := l
    rw [z] at q
    rw [l]
    exact fin_dat (d := .none) R1 (show V.non = V.non from rfl) (Kw.grow q g1)
  | some w =>
    rw [z] at l
    obtain ⟨u, l1, l2⟩ := l
    rw [z] at q
    rw [l1]
    exact fin_dat R1 l2 (Kw.grow q g1)
end
end MP
set_option linter.all false
set_option maxRecDepth 100000
set_option maxHeartbeats 1000000
/-! Comparisons as tests. -/
namespace MP
open PySem PySem.Spec PyProof.Rows L2 GxR
section
variable {c : Cn} {X : Cx} {C : CallF} {ex a b x1 x2 x3 : Expr} {ma mb mc : M} {pos : Pos} {σ : L2.St} {H : Hp}
theorem tt_to {m : M} {Q : Bool → Hp → Prop} (h : TT' c (tst C m) σ H Q) : TO c (ev C m) σ H fun x H' => ∃ k, x = .bl k ∧ Q k H' := by
  obtain ⟨ω, e, k, e', R, hf, q⟩ := h
  obtain ⟨o, h1, h2⟩ := lift_some (tst_some hf)
  refine ⟨ω, e, o, e', R, h1, fun ω1 H1 v g1 R1 rep => ⟨k, ?_, q ω1 H1 g1 R1⟩⟩
  cases o with
  | ins C fs => cases h2
  | b x =>
    cases x with
    | d y =>
      have : y = .bool k := Option.some.inj h2
      subst this
      exact rep
    | lst xs => exact absurd (Option.some.inj h2) (fun z => nomatch z)
    | dct xs => exact absurd (Option.some.inj h2) (fun z => nomatch z)
theorem cmp_te {o : Cop} {Q : VK} (h : TO c (ev C (.cmp o ma mb)) σ H Q) : tOp (rCmp c.K o) (TH c ma (evb C ma)) (TH c mb (evb C mb)) σ H Q := by
  obtain ⟨ω, e, r, e', R, hf, q⟩ := h
  unfold ev at hf
  obtain ⟨⟨d, e1⟩, h1, hf⟩ := Option.bind_eq_some_iff.mp hf
  obtain ⟨⟨d', e2⟩, h2, hf⟩ := Option.bind_eq_some_iff.mp hf
  obtain ⟨x, h3, hf⟩ := Option.bind_eq_some_iff.mp hf
  obtain ⟨k, h4, hf⟩ := Option.map_eq_some_iff.mp hf
  cases hf
  refine ⟨ω, e, d, e1, R, h1, fun ω1 H1 v g1 R1 hv => ⟨ω1, e1, d', _, R1, h2, fun ω2 H2 w g2 R2 hw => ?_⟩⟩
  exact cmp_ok ((hv.grow g2).now R2 h3) (hw.now R2 (evb_now h2)) h4 (fin_bl R2 (Kw.grow q (g1.trans g2)))
theorem sndT_cmp {o : Cop} (hK : X.K = c.K) (hu : X.A.units + 64 < cLine) (hm : behindInMarks (cmpOf o) b = false) (ha : PE X a (TH c ma (evb C ma))) (hb : PE X b (TH c mb (evb C mb))) :
    PT X (.Compare a [cmpOf o] [b] pos) (TT' c (tst C (.cmp o ma mb))) := by
  have h := pt_cmpR (pos := pos) (op_cmp hu o) ha hb hm
  rw [hK] at h
  exact PT.imp h fun σ H Q h => cmp_te (tt_to h)
theorem cmp2_te {o o' : Cop} {Q : VK} (h : TO c (ev C (.cmp2 o o' ma mb mc)) σ H Q) :
    tChain (rCmp c.K o) (rCmp c.K o') (TD c fun e => lift (ev C ma e)) (TD c fun e => lift (ev C mb e)) (TD c fun e => lift (ev C mc e)) σ H Q := by
  obtain ⟨ω, e, r, e', R, hf, q⟩ := h
  unfold ev at hf
  obtain ⟨⟨d, e1⟩, h1, hf⟩ := Option.bind_eq_some_iff.mp hf
  obtain ⟨⟨d', e2⟩, h2, hf⟩ := Option.bind_eq_some_iff.mp hf
  obtain ⟨b, h3, hf⟩ := Option.bind_eq_some_iff.mp hf
  refine ⟨ω, e, d, e1, R, h1, fun ω1 H1 v g1 R1 hv => ⟨ω1, e1, d', e2, R1, h2, fun ω2 H2 w g2 R2 hw => ?_⟩⟩
  refine cmp_ok (Rdv.of (Fz.up g2.up _ _ hv)) (Rdv.of hw) h3 ⟨b, rfl, ?_⟩
  cases b with
  | false =>
    rw [if_neg (by decide)] at hf ⊢
    cases hf
    exact fin_bl R2 (Kw.grow q (g1.trans g2))
  | true =>
    rw [if_pos rfl] at hf ⊢
    obtain ⟨⟨d3, e3⟩, h4, hf⟩ := Option.bind_eq_some_iff.mp hf
    obtain ⟨b', h5, hf⟩ := Option.map_eq_some_iff.mp hf
    cases hf
    refine ⟨ω2, e2, d3, _, R2, h4, fun ω3 H3 u g3 R3 hu' => ?_⟩
    exact cmp_ok (Rdv.of (Fz.up g3.up _ _ hw)) (Rdv.of hu') h5 (fin_bl R3 (Kw.grow q ((g1.trans g2).trans g3)))
theorem sndT_cmp2 {o o' : Cop} (hK : X.K = c.K) (hu : X.A.units + 64 < cLine) (hm : lastMarks [cmpOf o, cmpOf o'] [x2, x3] = false) (ha : PE X x1 (TD c fun e => lift (ev C ma e))) (hb : PE X x2 (TD c fun e => lift (ev C mb e))) (hc : PE X x3 (TD c fun e => lift (ev C mc e))) :
    PT X (.Compare x1 [cmpOf o, cmpOf o'] [x2, x3] pos) (TT' c (tst C (.cmp2 o o' ma mb mc))) := by
  have h := pt_chain (pos := pos) (op_cmp hu o) (op_cmp hu o') ha hb hc hm
  rw [hK] at h
  exact PT.imp h fun σ H Q h => cmp2_te (tt_to h)
theorem isN_te {n : Bool} {Q : VK} (h : TO c (ev C (.isN n ma)) σ H Q) : TH c ma (evb C ma) σ H fun v H1 => Q (.bl (if n = true then !decide (v = .non) else decide (v = .non))) H1 := by
  obtain ⟨ω, e, r, e', R, hf, q⟩ := h
  unfold ev at hf
  obtain ⟨⟨d, e1⟩, h1, hf⟩ := Option.bind_eq_some_iff.mp hf
  refine ⟨ω, e, d, e1, R, h1, fun ω1 H1 v g1 R1 hv => ?_⟩
  show Q (.bl (if n = true then !decide (v = .non) else decide (v = .non))) H1
  rw [(hv.now R1 (evb_now h1)).isNon]
  have k := Kw.grow q g1
  cases d with
  | none =>
    cases hf
    cases n <;> exact fin_bl R1 k
  | _ =>
    cases hf
    cases n <;> exact fin_bl R1 k
theorem sndT_isN {n : Bool} {pos' : Pos} {j : Nat} (ha : PE X a (TH c ma (evb C ma))) : PT X (.Compare a [if n = true then .IsNot else .Is] [.Constant .none j pos'] pos) (TT' c (tst C (.isN n ma))) := by
  cases n with
  | true => exact PT.imp (pt_cmp (pc_notN ha)) fun σ H Q h => isN_te (tt_to h)
  | false => exact PT.imp (pt_cmp (pc_isN ha)) fun σ H Q h => isN_te (tt_to h)
theorem sndT_inD {n : Bool} {i : Nat} {x : Str} {px : Pos} (hu : X.A.units + 1 < cLine) (hm : behindInMarks (if n = true then .NotIn else .In) (.Name x px) = false) (hN : X.N[i]? = some x) (hv : Vis X.env.scope x) (hd : (x == ("__debug__" : Str)) = false) (hcd : (x == ("__classdict__" : Str)) = false) (ha : PE X a (TD c fun e => lift (ev C ma e))) :
    PT X (.Compare a [if n = true then .NotIn else .In] [.Name x px] pos) (TT' c (tst C (.inD n ma i))) := by
  cases n with
  | true => exact PT.imp (pt_cmp (pc_dnotin hu ha (pe_var hN hv hd hcd)) hm) fun σ H Q h => inD_te (n := true) (tt_to h)
  | false => exact PT.imp (pt_cmp (pc_din hu ha (pe_var hN hv hd hcd)) hm) fun σ H Q h => inD_te (n := false) (tt_to h)
end
end MP
set_option linter.all false
set_option maxRecDepth 100000
set_option maxHeartbeats 4000000
/-! The checker: a term of the small language stands for an expression of the text. -/
namespace MP
open PySem PySem.Spec PyProof.Rows L2 GxR

def chkC (p : Pg) (cl f : Str) : Bool := p.cls.any fun q => q.1 == cl && q.2.contains f
def hasC (p : Pg) (cl : Str) : Bool := p.cls.any fun q => q.1 == cl
/-- a block's names: N the slots, sc the scope as it is seen, own the scope of the stores -/
structure Sc where
  N : List Str
  sc : Scope
  own : Scope
  /-- repr may be called here -/
  rp : Bool
abbrev lk (sc : Scope) (x : Str) : Option NameKind := sc.names.lookup x
def visB (sc : Scope) (x : Str) : Bool := lk sc x == some .local || lk sc x == some .cell || lk sc x == some .free
def okNm (x : Str) : Bool := (x == ("__debug__" : Str)) == false && (x == ("__classdict__" : Str)) == false
def chkV (s : Sc) (i : Nat) (x : Str) : Bool := s.N[i]? == some x && visB s.sc x && okNm x
def chkSt (s : Sc) (i : Nat) (x : Str) : Bool := s.N[i]? == some x && (lk s.sc x == some .local || (lk s.sc x == some .cell && lk s.own x == some .cell))
def chkB (p : Pg) (s : Sc) (x : Str) : Bool := p.blts.contains x && lk s.sc x == some .globalImplicit
def noSlice : Expr → Bool
  | .Slice _ _ _ _ => false
  | _ => true
def noStar : Expr → Bool
  | .Starred _ _ => false
  | _ => true
def noSet : Expr → Bool
  | .Set _ _ _ => false
  | _ => true
def noSetL : Expr → Bool
  | .Set _ _ _ => false
  | .List _ _ => false
  | _ => true
def isBor : M → Bool
  | .bor _ => true
  | _ => false
def isNul : M → Bool
  | .nul => true
  | _ => false
def isIfe : M → Bool
  | .ife _ _ _ => true
  | _ => false
/-- the scope that a comprehension's block sees -/
def relS (sc scope : Scope) : Scope := { scope with names := scope.names.map fun (n, k) => if (k == .free && sc.kind == .function && lk sc n == some .cell) then (n, .cell) else (n, k) }
def ownL (N : List Str) (own : List Nat) : List (Str × Nat) := own.map fun i => (N.getD i "", i)
def blkB (N : List Str) (sc scope : Scope) (own : List Nat) : Bool :=
  scope.kind == .function && scope.names.all (fun y => lk scope y.1 == some y.2) && own.all (fun i => decide (i < N.length)) &&
  scope.names.all (fun y => y.2 != .free || (lk sc y.1 == some .cell || lk sc y.1 == some .free)) &&
  scope.names.all (fun y => !(y.2 == .local || y.2 == .cell) || ((ownL N own).map (·.1)).contains y.1 || !N.contains y.1)
def genB (sc scope : Scope) : Bool :=
  scope.kind == .function && scope.isCoroutine == false && scope.names.all (fun y => y.2 != .cell) && lk scope (".0" : Str) == some NameKind.local &&
  scope.names.all (fun y => y.2 != .free || (lk sc y.1 == some .cell || lk sc y.1 == some .free))
def capB (s : Sc) (scope : Scope) (N : List Str) (cap : List (Option Nat)) (own : List Nat) (tg : Tg) : Bool :=
  cap.length == N.length && (cap.zip N).all (fun q => match q.1 with
    | some j => lk scope q.2 == some .free && (lk s.sc q.2 == some .cell || lk s.sc q.2 == some .free) && s.N[j]? == some q.2
    | none => true) && own.all (fun j => match cap[j]? with
    | some (some _) => false
    | _ => true) && (tgs tg).all (fun j => own.contains j)
def chkTg (s : Sc) : Tg → Expr → Bool
  | .nm i, ex => match ex with
    | .Name x _ => chkSt s i x
    | _ => false
  | .t1 a, ex => match ex with
    | .Tuple [e] _ _ => chkTg s a e
    | _ => false
  | .cons a r, ex => match ex with
    | .Tuple (e :: es) k p => chkTg s a e && isPat r && chkTg s r (.Tuple es k p)
    | _ => false
def isTup : Expr → Bool
  | .Tuple _ _ _ => true
  | _ => false
def gkS : Gk → String
  | .all => "all" | .any => "any" | .tuple => "tuple"
mutual
def chk (p : Pg) (g : Nat) (s : Sc) : M → Expr → Bool
  | .cst d, ex => match d, ex with
    | .none, .Constant .none _ _ => true
    | .bool b, .Constant (.bool b') _ _ => b == b'
    | .int i, .Constant (.int j) _ _ => i == j
    | .str x, .Constant (.str y) _ _ => x == y
    | _, _ => false
  | .glo x d, ex => match d, ex with
    | .int i, .Name y _ => x == y && p.gls.contains (x, i) && lk s.sc x == some .globalImplicit && okNm x
    | _, _ => false
  | .var i, ex => match ex with
    | .Name x _ => chkV s i x
    | _ => false
  | .bor i, ex => match ex with
    | .Name x _ => chkV s i x
    | _ => false
  | .mov i, ex => match ex with
    | .Name x _ => chkV s i x
    | _ => false
  | .fld cl i f, ex => match ex with
    | .Attribute (.Name x _) f' _ => f == f' && chkV s i x && chkC p cl f
    | _ => false
  | .fix cl i f j, ex => match ex with
    | .Subscript (.Attribute (.Name x _) f' _) (.Name y _) _ => f == f' && chkV s i x && chkV s j y && chkC p cl f
    | _ => false
  | .mcall cl m f i xs, ex => match ex with
    | .Call (.Attribute (.Name x _) m' pa) es [] pos => pa.endLine == pos.line && decide (es.length < 30) && m == m' && chkV s i x && p.fns[f]? == some (some cl, m) && chkA p g s xs es
    | _ => false
  | .new cl f xs, ex => match ex with
    | .Call (.Name x _) es [] _ => x == cl && p.fns[f]? == some (some cl, Str.ofString "__init__") && lk s.sc x == some .globalImplicit && okNm x && chks p g s xs es && chkA p g s xs es
    | _ => false
  | .kcall fx m a ents xs, ex => match ex with
    | .Call (.Attribute (.Call (.Name fx' _) [ea] [] _) m' pa) (e1 :: es) [] pos => pa.endLine == pos.line && decide ((e1 :: es).length < 30) && m == m' && fx == fx' && lk s.sc fx == some .globalImplicit && okNm fx && noStar ea &&
      (match p.kinds.lookup fx with
        | some tbl => ents.all (fun q => tbl.lookup q.1 == some q.2.1 && p.fns[q.2.2]? == some (some q.2.1, m))
        | none => false) && chk p g s a ea && chkA p g s xs (e1 :: es)
    | _ => false
  | .gcd xs, ex => match ex with
    | .Call (.Name x _) (e1 :: es) [] _ => p.gcds.contains x && lk s.sc x == some .globalImplicit && okNm x && chks p g s xs (e1 :: es) && chkA p g s xs (e1 :: es)
    | _ => false
  | .getDN i a, ex => match ex with
    | .Call (.Attribute (.Name x _) f pa) [ea] [] pos => f == "get" && pa.endLine == pos.line && chkV s i x && noStar ea && chk p g s a ea
    | _ => false
  | .dct1 a b, ex => match ex with
    | .Dict [some ea] [eb] _ => chk p g s a ea && chk p g s b eb
    | _ => false
  | .inD n a i, ex => match ex with
    | .Compare ea [op] [.Name x px] _ => op == (if n = true then .NotIn else .In) && behindInMarks (if n = true then .NotIn else .In) (.Name x px) == false && chkV s i x && chk p g s a ea
    | _ => false
  | .getD i a, ex => match ex with
    | .Subscript (.Name x _) ea _ => noSlice ea && chkV s i x && chk p g s a ea
    | _ => false
  | .lenset a, ex => match ex with
    | .Call (.Name x _) [.Call (.Name y _) [ea] [] _] [] _ => x == "len" && y == "set" && chkB p s x && chkB p s y && chk p g s a ea
    | _ => false
  | .rev a, ex => match ex with
    | .Subscript ea (.Slice none none (some (.UnaryOp .USub (.Constant (.int 1) _ _) _)) _) _ => chk p g s a ea
    | _ => false
  | .strr a b, ex => match ex with
    | .List [.Starred (.Call (.Name x _) [ea] [] _) _, .Starred (.Call (.Name y _) [eb] [] _) _] _ => x == "range" && y == "range" && chkB p s x && chk p g s a ea && chk p g s b eb
    | _ => false
  | .nul, ex => noStar ex
  | .bin o a b, ex => match ex with
    | .BinOp ea op eb _ => op == opOf o && chk p g s a ea && chk p g s b eb
    | _ => false
  | .neg a, ex => match ex with
    | .UnaryOp .USub ea _ => !isBor a && chk p g s a ea
    | _ => false
  | .cmp o a b, ex => match ex with
    | .Compare ea [op] [eb] _ => op == cmpOf o && behindInMarks (cmpOf o) eb == false && chk p g s a ea && chk p g s b eb
    | _ => false
  | .cmp2 o o' a b c, ex => match ex with
    | .Compare ea [op, op'] [eb, ec] _ => op == cmpOf o && op' == cmpOf o' && lastMarks [cmpOf o, cmpOf o'] [eb, ec] == false && chk p g s a ea && chk p g s b eb && chk p g s c ec
    | _ => false
  | .isN n a, ex => match ex with
    | .Compare ea [op] [.Constant .none _ _] _ => op == (if n = true then .IsNot else .Is) && chk p g s a ea
    | _ => false
  | .not a, ex => match ex with
    | .UnaryOp .Not ea _ => !isIfe a && chk p g s a ea
    | _ => false
  | .and xs, ex => match ex with
    | .BoolOp .And es _ => chkAO p g s xs es
    | _ => false
  | .or xs, ex => match ex with
    | .BoolOp .Or es _ => chkAO p g s xs es
    | _ => false
  | .ife c a b, ex => match ex with
    | .IfExp ec ea eb _ => !isIfe c && chk p g s c ec && chk p g s a ea && chk p g s b eb
    | _ => false
  | .tup xs, ex => match ex with
    | .Tuple es _ _ => chks p g s xs es
    | _ => false
  | .lst xs, ex => match ex with
    | .List es _ => chks p g s xs es
    | _ => false
  | .dct0, ex => match ex with
    | .Dict [] [] _ => true
    | _ => false
  | .idx a i, ex => match ex with
    | .Subscript ea ei _ => noSlice ei && chk p g s a ea && chk p g s i ei
    | _ => false
  | .slc a lo hi, ex => match ex with
    | .Subscript ea (.Slice elo ehi none _) _ => chk p g s a ea && (match elo with
      | none => isNul lo
      | some e => !isNul lo && chk p g s lo e) && (match ehi with
      | none => isNul hi
      | some e => !isNul hi && chk p g s hi e)
    | _ => false
  | .call f xs, ex => match ex with
    | .Call (.Name x _) es [] _ => p.fns[f]? == some (none, x) && lk s.sc x == some .globalImplicit && okNm x && chkA p g s xs es
    | _ => false
  | .bi o a, ex => match ex with
    | .Call (.Name x _) [ea] [] _ => (match o with | .repr => s.rp | _ => true) && x == Str.ofString (biS o) && chkB p s x && chk p g s a ea
    | _ => false
  | .isi t a, ex => match ex with
    | .Call (.Name x _) [ea, .Name y _] [] _ => x == "isinstance" && y == Str.ofString (tyS t) && chkB p s x && chkB p s y && chk p g s a ea
    | _ => false
  | .lc own tg it cs elt, ex => match ex with
    | .ListComp eelt [⟨etg, eit, ifs, z⟩] scope _ => z == 0 && blkB s.N s.sc scope own && (tgs tg).all (fun j => own.contains j) && chkI p g s it etg eit && noSet eit &&
      chkTg ⟨s.N, relS s.sc scope, scope, s.rp⟩ tg etg && chkF p g ⟨s.N, relS s.sc scope, scope, s.rp⟩ cs ifs && chk p g ⟨s.N, relS s.sc scope, scope, s.rp⟩ elt eelt
    | _ => false
  | .gen gk N cap own tg it cs elt, ex => match ex with
    | .Call (.Name x _) [.GeneratorExp eelt [⟨etg, eit, ifs, z⟩] scope _] [] _ => decide (0 < g) && z == 0 && x == Str.ofString (gkS gk) && chkB p s x && genB s.sc scope && decide N.Nodup && capB s scope N cap own tg && chkI p g s it etg eit && noSetL eit &&
      chkTg ⟨N, scope, scope, false⟩ tg etg && chkF p (g - 1) ⟨N, scope, scope, false⟩ cs ifs && chk p (g - 1) ⟨N, scope, scope, false⟩ elt eelt
    | _ => false
def chks (p : Pg) (g : Nat) (s : Sc) : Ms → List Expr → Bool
  | .nil, es => match es with
    | [] => true
    | _ => false
  | .cons a r, es => match es with
    | e :: es => chk p g s a e && chks p g s r es
    | _ => false
/-- arguments -/
def chkA (p : Pg) (g : Nat) (s : Sc) : Ms → List Expr → Bool
  | .nil, es => match es with
    | [] => true
    | _ => false
  | .cons a r, es => match es with
    | e :: es => chk p g s a e && chkA p g s r es
    | _ => false
/-- of an and, an or: at least one -/
def chkAO (p : Pg) (g : Nat) (s : Sc) : Ms → List Expr → Bool
  | .nil, _ => false
  | .cons a r, es => match es with
    | [] => false
    | e :: es => !isIfe a && chk p g s a e && (match es with
      | [] => (match r with | .nil => true | _ => false)
      | _ => chkAO p g s r es)
/-- a comprehension's test -/
def chkF (p : Pg) (g : Nat) (s : Sc) : Ms → List Expr → Bool
  | .nil, es => match es with
    | [] => true
    | _ => false
  | .cons a r, es => match es with
    | [e] => !isIfe a && chk p g s a e && (match r with | .nil => true | _ => false)
    | _ => false
def chkI (p : Pg) (g : Nat) (s : Sc) : Itm → Expr → Expr → Bool
  | .dat a, _, e => chk p g s a e
  | .rng a, _, e => match e with
    | .Call (.Name x _) [ea] [] _ => x == "range" && chkB p s x && chk p g s a ea
    | _ => false
  | .rng2 a b, _, e => match e with
    | .Call (.Name x _) [ea, eb] [] _ => x == "range" && chkB p s x && chk p g s a ea && chk p g s b eb
    | _ => false
  | .zip a b, tg, e => match e with
    | .Call (.Name x _) [ea, eb] [] _ => isTup tg && x == "zip" && chkB p s x && chk p g s a ea && chk p g s b eb
    | _ => false
  | .enm a, tg, e => match e with
    | .Call (.Name x _) [ea] [] _ => isTup tg && x == "enumerate" && chkB p s x && chk p g s a ea
    | _ => false
end
end MP
set_option linter.all false
set_option maxRecDepth 100000
set_option maxHeartbeats 4000000
/-! What passes the checker is sound. -/
namespace MP
open PySem PySem.Spec PyProof.Rows L2 GxR

/-- where a def stands: a name of the module's, a method -/
def Lk (c : Cn) (o : Option Str) (x : Str) (f : Addr) : Prop := match o with
  | none => c.mg x = some (.ref f)
  | some cl => Cls c.K (c.cls cl) ∧ Meth c.K (c.cls cl) x f ∧ (x = Str.ofString "__init__" → Mk c.K (c.cls cl) f ∧ c.mg cl = some (.ref (c.cls cl)))
/-- what is known of the program's names -/
structure Facts (c : Cn) (p : Pg) (k : Nat) (C : CallF) : Prop where
  blt : ∀ nm ∈ p.blts, c.mg nm = none
  gls : ∀ x i, (x, i) ∈ p.gls → ∃ t, c.mg x = some (.int i t)
  fns : ∀ (i : Nat) o x, p.fns[i]? = some (o, x) → ∃ f fd ps, Lk c o x f ∧ PySem.W.keepIn c.K (.ref f) = true ∧ Binds c.K fd ps [] ∧ FnOk c.prog c.w c.K c.mg c.base CX0 k f fd ps (spOf c (C i))
  cls : ∀ q ∈ p.cls, ∀ f ∈ q.2, Cls c.K (c.cls q.1) ∧ NoAttr c.K (c.cls q.1) f
  kinds : ∀ q ∈ p.kinds, Calls1 C → ∃ f fd ps, c.mg q.1 = some (.ref f) ∧ PySem.W.keepIn c.K (.ref f) = true ∧ Binds c.K fd ps [] ∧ FnOk c.prog c.w c.K c.mg c.base CX0 k f fd ps (spKind c q.2)
  gcds : ∀ x ∈ p.gcds, c.mg x = some (.builtin "math.gcd")
/-- a context of the walk -/
structure OkX (c : Cn) (k g : Nat) (s : Sc) (X : Cx) : Prop where
  prog : X.prog = c.prog
  w : X.w = c.w
  K : X.K = c.K
  mg : X.mg = c.mg
  base : X.base = c.base
  N : X.N = s.N
  nd : s.N.Nodup
  sc : X.env.scope = s.sc
  calm : X.calm = true
  room : Room (k + 7 * g + 1) X.A
  fn : ∀ x, lk s.own x = some .cell → X.fn x = true
  g1 : g ≤ 1
  rep : s.rp = true → X.A.guards = some []
  code : 0 < g → ∃ cc P, X.env.code = .ref cc ∧ TabB c.base c.mg cc P ∧ P ∈ c.tabs

theorem lookup_mem' {α : Type} {w : Str} {v : α} : ∀ {l : List (Str × α)}, l.lookup w = some v → (w, v) ∈ l
  | [], h => by cases h
  | (k, x) :: r, h => by
    rw [lkc] at h
    by_cases z : w = k
    · rw [if_pos z] at h
      cases h
      rw [z]
      exact List.mem_cons_self
    · rw [if_neg z] at h
      exact List.mem_cons_of_mem _ (lookup_mem' h)
theorem str_beq {x y : Str} (h : (x == y) = true) : x = y := by simpa using h
section
variable {c : Cn} {p : Pg} {k g : Nat} {C : CallF} {s : Sc} {X : Cx}
theorem vis_of {x : Str} (h : visB s.sc x = true) (hs : X.env.scope = s.sc) : Vis X.env.scope x := by
  unfold visB at h
  rw [hs]
  simp only [Bool.or_eq_true, beq_iff_eq] at h
  rcases h with (h | h) | h
  · exact .inl h
  · exact .inr (.inl h)
  · exact .inr (.inr h)
theorem ok_nm {x : Str} (h : okNm x = true) : (x == ("__debug__" : Str)) = false ∧ (x == ("__classdict__" : Str)) = false := by
  unfold okNm at h
  rw [Bool.and_eq_true] at h
  exact ⟨beq_iff_eq.mp h.1, beq_iff_eq.mp h.2⟩
theorem chkV_ok {i : Nat} {x : Str} (h : chkV s i x = true) (O : OkX c k g s X) : X.N[i]? = some x ∧ Vis X.env.scope x ∧ (x == ("__debug__" : Str)) = false ∧ (x == ("__classdict__" : Str)) = false := by
  unfold chkV at h
  rw [Bool.and_eq_true, Bool.and_eq_true] at h
  exact ⟨by rw [O.N]; exact beq_iff_eq.mp h.1.1, vis_of h.1.2 O.sc, ok_nm h.2⟩
theorem chkSt_ok {i : Nat} {x : Str} (h : chkSt s i x = true) (O : OkX c k g s X) : X.N[i]? = some x ∧ Loc X.env.scope x ∧ (X.fn x = true ∨ X.env.scope.names.lookup x = some .local) := by
  unfold chkSt at h
  rw [Bool.and_eq_true, Bool.or_eq_true, Bool.and_eq_true] at h
  obtain ⟨h1, h2⟩ := h
  refine ⟨by rw [O.N]; exact beq_iff_eq.mp h1, ?_, ?_⟩
  · rw [O.sc]
    rcases h2 with h2 | h2
    · exact .inl (beq_iff_eq.mp h2)
    · exact .inr (beq_iff_eq.mp h2.1)
  · rcases h2 with h2 | h2
    · exact .inr (by rw [O.sc]; exact beq_iff_eq.mp h2)
    · exact .inl (O.fn x (beq_iff_eq.mp h2.2))
theorem chkB_ok {x : Str} (h : chkB p s x = true) (O : OkX c k g s X) (F : Facts c p k C) : Gl X x ∧ X.mg x = none := by
  unfold chkB at h
  rw [Bool.and_eq_true] at h
  exact ⟨by show X.env.scope.names.lookup x = _; rw [O.sc]; exact beq_iff_eq.mp h.2, by rw [O.mg]; exact F.blt x (by simpa using h.1)⟩
theorem noStar_ok {e : Expr} (h : noStar e = true) (es : List Expr) : starEach (e :: es) X.env = (false, eval e X.env) :: starEach es X.env := by
  cases e <;> first | rfl | exact absurd (show false = true from h) Bool.false_ne_true
theorem noStarT_ok {e : Expr} (h : noStar e = true) (es : List Expr) : assignEach (e :: es) X.env = (false, assign e X.env) :: assignEach es X.env := by
  cases e <;> first | rfl | exact absurd (show false = true from h) Bool.false_ne_true
theorem OkX.units (O : OkX c k g s X) : X.A.units + 64 < cLine := O.room.units
/-- what is known of a term and its expression -/
structure Snd (c : Cn) (C : CallF) (X : Cx) (m : M) (ex : Expr) : Prop where
  v : PE X ex (TO c (ev C m))
  h : PE X ex (TH c m (evb C m))
  t : isIfe m = false → PT X ex (TT' c (tst C m))
  ns : noStar ex = true
theorem Snd.d {m : M} {ex : Expr} (S : Snd c C X m ex) : PE X ex (TD c fun e => lift (ev C m e)) := PE.data S.v
theorem Snd.mk' {m : M} {ex : Expr} (v : PE X ex (TO c (ev C m))) (hb : ∀ i, m ≠ .bor i) (t : isIfe m = false → PT X ex (TT' c (tst C m))) (ns : noStar ex = true) : Snd c C X m ex := ⟨v, PE.opnd (PE.data v) hb, t, ns⟩
theorem Snd.mkV {m : M} {ex : Expr} (v : PE X ex (TO c (ev C m))) (hb : ∀ i, m ≠ .bor i) (he : ∀ whole, isTrue ex X.env whole = (do let v ← whole; standAt ex.pos; holding [v] (truthy v))) (ns : noStar ex = true) : Snd c C X m ex := .mk' v hb (fun _ => PT.ofVal v he) ns
theorem isBor_of {m : M} (h : isBor m = false) : ∀ i, m ≠ .bor i := fun i z => by rw [z] at h; cases h

/-! targets -/
theorem tg_star {tg : Tg} {e : Expr} (h : chkTg s tg e = true) : noStar e = true := by
  cases tg <;> cases e <;> first | rfl | exact absurd h (by simp [chkTg])
theorem sndTg (O : OkX c k g s X) : ∀ (tg : Tg) (ex : Expr), chkTg s tg ex = true → PG X ex (TGm c tg) ∧ (∀ es k' p', ex = .Tuple es k' p' → isPat tg = true ∧ PGs X es (TGl c tg) ∧ (assignEach es X.env).length = tgn tg ∧ (assignEach es X.env).findIdx? (·.1) = none)
  | .nm i, ex, h => by
    unfold chkTg at h
    cases ex with
    | Name x pos =>
      obtain ⟨h1, h2, h3⟩ := chkSt_ok h O
      exact ⟨sndG_nm (by rw [O.N]; exact O.nd) h1 h2 h3, fun es k' p' z => nomatch z⟩
    | _ => cases h
  | .t1 a, ex, h => by
    unfold chkTg at h
    cases ex with
    | Tuple es kk pos =>
      cases es with
      | nil => cases h
      | cons e es =>
        cases es with
        | cons _ _ => cases h
        | nil =>
          have h : chkTg s a e = true := h
          have hs := noStarT_ok (X := X) (tg_star h) []
          have l := sndG_t1 (sndTg O a e h).1 (by rw [hs]; rfl)
          have hn : (assignEach [e] X.env).length = 1 := by rw [hs]; rfl
          have hf : (assignEach [e] X.env).findIdx? (·.1) = none := by rw [hs]; rfl
          exact ⟨sndG_tup O.K O.calm rfl l hn hf, fun es' k' p' z => by cases z; exact ⟨rfl, l, hn, hf⟩⟩
    | _ => cases h
  | .cons a r, ex, h => by
    unfold chkTg at h
    cases ex with
    | Tuple es kk pos =>
      cases es with
      | nil => cases h
      | cons e es =>
        have h : (chkTg s a e && isPat r && chkTg s r (.Tuple es kk pos)) = true := h
        rw [Bool.and_eq_true, Bool.and_eq_true] at h
        have hs := noStarT_ok (X := X) (tg_star h.1.1) es
        obtain ⟨q0, q1, q2, q3⟩ := (sndTg O r (.Tuple es kk pos) h.2).2 es kk pos rfl
        have l := sndG_cons (sndTg O a e h.1.1).1 q1 (by rw [hs]; rfl)
        have hn : (assignEach (e :: es) X.env).length = tgn r + 1 := by rw [hs, List.length_cons, q2]
        have hf : (assignEach (e :: es) X.env).findIdx? (·.1) = none := by
          rw [hs, List.findIdx?_cons]
          simp [q3]
        exact ⟨sndG_tup O.K O.calm (show isPat (.cons a r) = true from h.1.2) l hn hf, fun es' k' p' z => by cases z; exact ⟨h.1.2, l, hn, hf⟩⟩
    | _ => cases h
/-! blocks -/
theorem relabel_eq {scope : Scope} {env : Env} (h : env.scope = s.sc) : relabel scope env = relS s.sc scope := by
  unfold relabel relS Env.kindOf lk
  rw [h]
theorem blk_ok {scope : Scope} {own : List Nat} (h : blkB s.N s.sc scope own = true) (O : OkX c k g s X) : BlkOk X.N X.env.scope scope (ownL s.N own) ∧ (ownL s.N own).map (·.2) = own := by
  unfold blkB at h
  simp only [Bool.and_eq_true, List.all_eq_true, beq_iff_eq, bne_iff_ne, Bool.or_eq_true, Bool.not_eq_true', decide_eq_true_eq] at h
  obtain ⟨⟨⟨⟨h1, h2⟩, h3⟩, h4⟩, h5⟩ := h
  rw [O.N, O.sc]
  refine ⟨⟨h1, fun y hy => h2 y hy, fun q hq => ?_, fun y hy e => ?_, fun y hy e => ?_⟩, ?_⟩
  · unfold ownL at hq
    obtain ⟨i, hi, rfl⟩ := List.mem_map.mp hq
    have := h3 i hi
    simp [List.getD_eq_getElem?_getD, this]
  · rcases h4 y hy with q | q
    · exact absurd e q
    · exact q
  · rcases h5 y hy with (q | q) | q
    · exfalso
      rcases e with e | e <;> (rw [e] at q; revert q; decide)
    · left; simpa using q
    · right; intro z; rw [List.contains_iff_mem.mpr z] at q; cases q
  · unfold ownL
    rw [List.map_map]
    simp [Function.comp_def]
theorem okX_blk {scope : Scope} (O : OkX c k g s X) (sh : Shared) (H : Hp) (Cc : Addr) (cl : List (Str × Addr)) (fp : List Addr) : OkX c k g ⟨s.N, relS s.sc scope, scope, s.rp⟩ (X.blk sh H scope (compEnvC scope cl Cc X.env) fp) :=
  ⟨O.prog, O.w, O.K, O.mg, O.base, O.N, O.nd, relabel_eq O.sc, O.calm, O.room, fun x hx => by
    show (scope.names.lookup x == some .cell) = true
    rw [show scope.names.lookup x = some .cell from hx]; rfl, O.g1, O.rep, fun hg => O.code hg⟩
theorem okX_gen {scope : Scope} {N : List Str} {Xg : Cx} (O : OkX c k g s X) (hg : 0 < g) (hN : N.Nodup) (hc : ∀ x, lk scope x ≠ some .cell) (I : IsG X scope N (k + 7 * (g - 1) + 1) Xg) : OkX c k (g - 1) ⟨N, scope, scope, false⟩ Xg :=
  ⟨I.prog.trans O.prog, I.w.trans O.w, I.K.trans O.K, I.mg.trans O.mg, I.base.trans O.base, I.N, hN, I.scope, I.calm, I.room, fun x hx => absurd hx (hc x), by have := O.g1; omega, (fun h => nomatch h), fun h => by have := O.g1; omega⟩

theorem gen_sc {scope : Scope} (h : genB s.sc scope = true) (O : OkX c k g s X) : GenSc X scope ∧ ∀ x, lk scope x ≠ some .cell := by
  unfold genB at h
  simp only [Bool.and_eq_true, List.all_eq_true, beq_iff_eq, bne_iff_ne, Bool.or_eq_true] at h
  obtain ⟨⟨⟨⟨h1, h2⟩, h3⟩, h4⟩, h5⟩ := h
  refine ⟨⟨h1, h2, h3, h4, fun y hy e => ?_⟩, fun x hx => ?_⟩
  · rw [O.sc]
    rcases h5 y hy with q | q
    · exact absurd e q
    · exact q
  · exact h3 _ (PySem.mem_of_lookup hx) rfl
theorem cap_ok {scope : Scope} {N : List Str} {cap : List (Option Nat)} {own : List Nat} {tg : Tg} (h : capB s scope N cap own tg = true) (O : OkX c k g s X) : CapOk X scope N cap own tg := by
  unfold capB at h
  rw [Bool.and_eq_true, Bool.and_eq_true, Bool.and_eq_true] at h
  obtain ⟨⟨⟨h1, h2⟩, h3⟩, h4⟩ := h
  have h1 := beq_iff_eq.mp h1
  rw [List.all_eq_true] at h2 h3 h4
  refine ⟨h1, fun i j x e1 e2 => ?_, fun j hj i e => ?_, fun j hj => by simpa using h4 j hj⟩
  · have hm : (some j, x) ∈ cap.zip N := by
      refine List.mem_of_getElem? (i := i) ?_
      rw [List.getElem?_zip_eq_some]
      exact ⟨e1, e2⟩
    have q := h2 _ hm
    simp only [Bool.and_eq_true, Bool.or_eq_true, beq_iff_eq] at q
    rw [O.sc, O.N]
    exact ⟨q.1.1, q.1.2, q.2⟩
  · have q := h3 j hj
    rw [e] at q
    cases q
theorem chkC_ok {cl f : Str} (h : chkC p cl f = true) (F : Facts c p k C) : Cls c.K (c.cls cl) ∧ NoAttr c.K (c.cls cl) f := by
  unfold chkC at h
  rw [List.any_eq_true] at h
  obtain ⟨q, hq, h⟩ := h
  rw [Bool.and_eq_true, beq_iff_eq] at h
  have := F.cls q hq f (by simpa using h.2)
  rw [h.1] at this
  exact this
theorem noSl_ok {e : Expr} (h : noSlice e = true) : NoSl e := by
  intro o i
  cases e <;> first | rfl | exact absurd (show false = true from h) Bool.false_ne_true
theorem hpl_of {pos : Pos} : ∀ {es : List Expr}, (∀ e ∈ es, noStar e = true) → (backTo pos (starEach es X.env)).any (·.1) = false
  | [], _ => rfl
  | e :: es, h => by
    rw [noStar_ok (h e List.mem_cons_self) es]
    show (false || (backTo pos (starEach es X.env)).any (·.1)) = false
    rw [hpl_of fun e' he => h e' (List.mem_cons_of_mem _ he)]
    rfl
theorem hall_of {pos : Pos} : ∀ {es : List Expr}, (∀ e ∈ es, noStar e = true) → (backTo pos (starEach es X.env)).all (fun x => !x.1) = true ∧ (backTo pos (starEach es X.env)).length = es.length
  | [], _ => ⟨rfl, rfl⟩
  | e :: es, h => by
    obtain ⟨h1, h2⟩ := hall_of fun e' he => h e' (List.mem_cons_of_mem _ he)
    rw [noStar_ok (h e List.mem_cons_self) es]
    refine ⟨?_, ?_⟩
    · show (!false && (backTo pos (starEach es X.env)).all (fun x => !x.1)) = true
      rw [h1]
      rfl
    · show (backTo pos (starEach es X.env)).length + 1 = es.length + 1
      rw [h2]
theorem mc_eq {x m : Str} {px apos pos : Pos} {es : List Expr} (hl : (apos.endLine == pos.line) = true) (hn : es.length < 30) (hs : ∀ e ∈ es, noStar e = true) :
    eval (.Call (.Attribute (.Name x px) m apos) es [] pos) X.env = (do
      let ov ← eval (.Name x px) X.env
      standAt apos.atName
      let (f, first) ← holding [ov] (getMethod ov m (do return (← importBound (.Name x px) X.env).getD true))
      callWith pos f first (backTo pos (starEach es X.env)) (backToKw pos (keywordEach [] X.env))) := by
  obtain ⟨h1, _⟩ := hall_of (X := X) (pos := pos) hs
  have hf : methodCallForm (es.length + ([] : List Keyword).length) (backTo pos (starEach es X.env)) (backToKw pos (keywordEach [] X.env)) = true := by
    unfold methodCallForm
    rw [h1]
    show decide (es.length + 0 + 0 < 30) = true
    exact decide_eq_true hn
  show (do
    let ov ← eval (.Name x px) X.env
    standAt apos.atName
    methodCall (.Name x px) m apos pos X.env ov (es.length + ([] : List Keyword).length) (backTo pos (starEach es X.env)) (backToKw pos (keywordEach [] X.env))) = _
  unfold methodCall
  rw [hf]
  have hp : methodCallPos true (.Name x px) X.env apos pos = pure pos := by
    unfold methodCallPos
    rw [hl]
    rfl
  rw [hp]
  rfl
theorem mc_eqC {x m : Str} {px apos pos cpos : Pos} {ea : Expr} {es : List Expr} (hl : (apos.endLine == pos.line) = true) (hn : es.length < 30) (hs : ∀ e ∈ es, noStar e = true) :
    eval (.Call (.Attribute (.Call (.Name x px) [ea] [] cpos) m apos) es [] pos) X.env = (do
      let ov ← eval (.Call (.Name x px) [ea] [] cpos) X.env
      standAt apos.atName
      let (f, first) ← holding [ov] (getMethod ov m (do return (← importBound (.Call (.Name x px) [ea] [] cpos) X.env).getD true))
      callWith pos f first (backTo pos (starEach es X.env)) (backToKw pos (keywordEach [] X.env))) := by
  obtain ⟨h1, _⟩ := hall_of (X := X) (pos := pos) hs
  have hf : methodCallForm (es.length + ([] : List Keyword).length) (backTo pos (starEach es X.env)) (backToKw pos (keywordEach [] X.env)) = true := by
    unfold methodCallForm
    rw [h1]
    show decide (es.length + 0 + 0 < 30) = true
    exact decide_eq_true hn
  show (do
    let ov ← eval (.Call (.Name x px) [ea] [] cpos) X.env
    standAt apos.atName
    methodCall (.Call (.Name x px) [ea] [] cpos) m apos pos X.env ov (es.length + ([] : List Keyword).length) (backTo pos (starEach es X.env)) (backToKw pos (keywordEach [] X.env))) = _
  unfold methodCall
  rw [hf]
  have hp : methodCallPos true (.Call (.Name x px) [ea] [] cpos) X.env apos pos = pure pos := by
    unfold methodCallPos
    rw [hl]
    rfl
  rw [hp]
  rfl
theorem plainIx {e : Expr} (h : noSlice e = true) : PlainIx e := by
  intro o i
  cases e <;> first | rfl | exact absurd (show false = true from h) Bool.false_ne_true
theorem noSet_ok {e : Expr} (h : noSet e = true) : ∀ x, foldedSetIterable e X.env x = pure x := by
  intro x
  cases e <;> first | rfl | exact absurd (show false = true from h) Bool.false_ne_true
theorem noSetL_ok {e : Expr} (h : noSetL e = true) : ∀ x, genFold e X.env x = pure x := by
  intro x
  cases e <;> first | rfl | exact absurd (show false = true from h) Bool.false_ne_true
structure SndL (c : Cn) (C : CallF) (p : Pg) (g : Nat) (s : Sc) (X : Cx) (ms : Ms) : Prop where
  l : ∀ es, chks p g s ms es = true → PA X es (TL c (evs C ms))
  o : ∀ es, chks p g s ms es = true → PA X es (TF c (evOs C ms))
  a : ∀ es, chkA p g s ms es = true → PA X es (TAg c (evas C ms))
  ns : ∀ es, chkA p g s ms es = true → ∀ e ∈ es, noStar e = true
  f : ∀ es, chkF p g s ms es = true → PTs X es (TT' c (evAO C true ms))
  an : ∀ es pos, chkAO p g s ms es = true → PE X (.BoolOp .And es pos) (TD c fun e => (evAO C true ms e).map fun p => (.bool p.1, p.2)) ∧ PW X (.BoolOp .And es pos) (TT' c (evAO C true ms))
  orr : ∀ es pos, chkAO p g s ms es = true → PE X (.BoolOp .Or es pos) (TD c fun e => (evAO C false ms e).map fun p => (.bool p.1, p.2)) ∧ PW X (.BoolOp .Or es pos) (TT' c (evAO C false ms))
theorem none_var {ex : Expr} {m : M} (h : ∀ e, ev C m e = none) : PE X ex (TO c (ev C m)) := PE.none _ fun σ H Q ⟨ω, e, r, e', R, hf, q⟩ => by
  rw [h] at hf
  cases hf
theorem none_tst {ex : Expr} {m : M} (h : ∀ e, ev C m e = none) : PT X ex (TT' c (tst C m)) := ⟨fun pins s σ H Q I ⟨ω, e, r, e', R, hf, q⟩ => by
  unfold tst at hf
  rw [h] at hf
  cases hf⟩
mutual
theorem snd_m (F : Facts c p k C) : ∀ (m : M) {g : Nat} {s : Sc} {X : Cx}, OkX c k g s X → ∀ ex, chk p g s m ex = true → Snd c C X m ex
  | .cst d, g, s, X, O, ex, h => by
    unfold chk at h
    split at h
    · exact .mkV (snd_cst pe_non fun F => rfl) (fun i z => nomatch z) (fun _ => rfl) rfl
    · have := beq_iff_eq.mp h
      subst this
      exact .mkV (snd_cst pe_bl fun F => rfl) (fun i z => nomatch z) (fun _ => rfl) rfl
    · have := beq_iff_eq.mp h
      subst this
      exact .mkV (snd_cst pe_int fun F => rfl) (fun i z => nomatch z) (fun _ => rfl) rfl
    · have := beq_iff_eq.mp h
      subst this
      exact .mkV (snd_cst pe_str fun F => rfl) (fun i z => nomatch z) (fun _ => rfl) rfl
    · cases h
  | .glo x d, g, s, X, O, ex, h => by
    unfold chk at h
    split at h
    · simp only [Bool.and_eq_true, beq_iff_eq] at h
      obtain ⟨⟨⟨h1, h2⟩, h3⟩, h4⟩ := h
      subst h1
      obtain ⟨t, ht⟩ := F.gls _ _ (by simpa using h2)
      exact .mkV (snd_glo (pe_glob (v := .int _) (u := .int _ t) (by show X.env.scope.names.lookup _ = _; rw [O.sc]; exact h3) (by rw [O.mg]; exact ht) ⟨t, rfl⟩ (ok_nm h4).1) fun F => rfl) (fun i z => nomatch z) (fun _ => rfl) rfl
    · cases h
  | .var i, g, s, X, O, ex, h => by
    unfold chk at h
    split at h
    · obtain ⟨h1, h2, h3, h4⟩ := chkV_ok h O
      exact .mkV (snd_var h1 h2 h3 h4) (fun i z => nomatch z) (fun _ => rfl) rfl
    · cases h
  | .bor i, g, s, X, O, ex, h => by
    unfold chk at h
    split at h
    · obtain ⟨h1, h2, h3, h4⟩ := chkV_ok h O
      exact ⟨none_var fun e => by unfold ev; rfl, snd_bor h1 h2 h3 h4, fun _ => none_tst fun e => by unfold ev; rfl, rfl⟩
    · cases h
  | .mov i, g, s, X, O, ex, h => by
    unfold chk at h
    split at h
    · obtain ⟨h1, h2, h3, h4⟩ := chkV_ok h O
      exact .mkV (snd_mov h1 h2 h3 h4) (fun i z => nomatch z) (fun _ => rfl) rfl
    · cases h
  | .fld cl i f, g, s, X, O, ex, h => by
    unfold chk at h
    split at h
    · simp only [Bool.and_eq_true, beq_iff_eq] at h
      obtain ⟨⟨h1, h2⟩, h3⟩ := h
      subst h1
      obtain ⟨k1, k2, k3, k4⟩ := chkV_ok h2 O
      obtain ⟨k5, k6⟩ := chkC_ok h3 F
      exact .mkV (snd_fld O.K k1 k2 k3 k4 k5 k6 rfl) (fun i z => nomatch z) (fun _ => rfl) rfl
    · cases h
  | .fix cl i f j, g, s, X, O, ex, h => by
    unfold chk at h
    split at h
    · simp only [Bool.and_eq_true, beq_iff_eq] at h
      obtain ⟨⟨⟨h1, h2⟩, h2'⟩, h3⟩ := h
      subst h1
      obtain ⟨k1, k2, k3, k4⟩ := chkV_ok h2 O
      obtain ⟨j1, j2, j3, j4⟩ := chkV_ok h2' O
      obtain ⟨k5, k6⟩ := chkC_ok h3 F
      exact .mkV (snd_fix O.K k1 k2 k3 k4 j1 j2 j3 j4 k5 k6 rfl) (fun i z => nomatch z) (fun _ => rfl) rfl
    · cases h
  | .mcall cl m f i xs, g, s, X, O, ex, h => by
    unfold chk at h
    split at h
    · rename_i x px m' pa es pos
      simp only [Bool.and_eq_true, beq_iff_eq] at h
      obtain ⟨⟨⟨⟨⟨h5, h6⟩, h1⟩, h2⟩, h3⟩, h4⟩ := h
      have h6 := of_decide_eq_true h6
      subst h1
      obtain ⟨k1, k2, k3, k4⟩ := chkV_ok h2 O
      obtain ⟨fa, fd, ps, e1, e2, e3, e4⟩ := F.fns f (some cl) m h3
      obtain ⟨q1, q2, _⟩ := e1
      have e3' : Binds X.K fd ps [] := by rw [O.K]; exact e3
      have e4' : FnOk X.prog X.w X.K X.mg X.base CX0 k fa fd ps (spOf c (C f)) := by rw [O.prog, O.w, O.K, O.mg, O.base]; exact e4
      have hr : Room k X.A := O.room.mono (by omega)
      have ha := (snd_l F xs O).a es h4
      cases es with
      | nil =>
        cases xs with
        | cons _ _ => unfold chkA at h4; cases h4
        | nil => exact .mkV (snd_mcall0 O.K e4' hr e3' k1 k2 k3 k4 q1 q2 (mc_eq (beq_iff_eq.mpr h5) h6 (fun e he => absurd he (by simp)))) (fun i z => nomatch z) (fun _ => rfl) rfl
      | cons e es =>
        have hst := (snd_l F xs O).ns _ h4
        have hs := noStar_ok (X := X) (hst e List.mem_cons_self) es
        have hpl := hpl_of (X := X) (pos := pos) fun e' he => hst e' (List.mem_cons_of_mem _ he)
        exact .mkV (snd_mcall O.K e4' hr e3' k1 k2 k3 k4 q1 q2 ha hs hpl (mc_eq (beq_iff_eq.mpr h5) h6 hst)) (fun i z => nomatch z) (fun _ => rfl) rfl
    · cases h
  | .new cl f xs, g, s, X, O, ex, h => by
    unfold chk at h
    split at h
    · rename_i x px es pos
      simp only [Bool.and_eq_true, beq_iff_eq] at h
      obtain ⟨⟨⟨⟨⟨h1, h2⟩, h3⟩, h4⟩, h5⟩, h6⟩ := h
      subst h1
      obtain ⟨fa, fd, ps, e1, e2, e3, e4⟩ := F.fns f (some x) (Str.ofString "__init__") h2
      obtain ⟨q1, q2, q3⟩ := e1
      obtain ⟨q4, q5⟩ := q3 rfl
      have hgl : Gl X x := by show X.env.scope.names.lookup _ = _; rw [O.sc]; exact h3
      have e1' : X.mg x = some (.ref (c.cls x)) := by rw [O.mg]; exact q5
      have e3' : Binds X.K fd ps [] := by rw [O.K]; exact e3
      have e4' : FnOk X.prog X.w X.K X.mg X.base CX0 k fa fd ps (spOf c (C f)) := by rw [O.prog, O.w, O.K, O.mg, O.base]; exact e4
      have hr : Room (k + 1) X.A := O.room.mono (by omega)
      have ha := (snd_l F xs O).l es h5
      cases es with
      | nil =>
        cases xs with
        | cons _ _ => unfold chks at h5; cases h5
        | nil => exact .mkV (snd_new0 O.K q4 e4' hr hgl e1' e3' (ok_nm h4).1) (fun i z => nomatch z) (fun _ => rfl) rfl
      | cons e es =>
        have hst := (snd_l F xs O).ns _ h6
        have hs := noStar_ok (X := X) (hst e List.mem_cons_self) es
        have hpl := hpl_of (X := X) (pos := pos) fun e' he => hst e' (List.mem_cons_of_mem _ he)
        exact .mkV (snd_new O.K q4 e4' hr hgl e1' e3' (ok_nm h4).1 ha hs hpl) (fun i z => nomatch z) (fun _ => rfl) rfl
    · cases h
  | .kcall fx m a ents xs, g, s, X, O, ex, h => by
    unfold chk at h
    split at h
    · rename_i fx' px ea cp m' pa e1 es pos
      simp only [Bool.and_eq_true, beq_iff_eq] at h
      obtain ⟨⟨⟨⟨⟨⟨⟨⟨⟨h1, h2⟩, h3⟩, h4⟩, h5⟩, h6⟩, h7⟩, h8⟩, h9⟩, h10⟩ := h
      have h2 := of_decide_eq_true h2
      subst h3 h4
      split at h8
      case h_2 => cases h8
      next tbl ht =>
      rw [List.all_eq_true] at h8
      have hgl : Gl X fx := by show X.env.scope.names.lookup _ = _; rw [O.sc]; exact h5
      have hst := (snd_l F xs O).ns _ h10
      have hs := noStar_ok (X := X) (hst e1 List.mem_cons_self) es
      have hpl := hpl_of (X := X) (pos := pos) fun e' he => hst e' (List.mem_cons_of_mem _ he)
      have key : Calls1 C → PE X (.Call (.Attribute (.Call (.Name fx px) [ea] [] cp) m pa) (e1 :: es) [] pos) (TO c (ev C (.kcall fx m a ents xs))) := fun cl => by
        obtain ⟨fa, fd, ps, q1, q2, q3, q4⟩ := F.kinds (fx, tbl) (lookup_mem' ht) cl
        have q1' : X.mg fx = some (.ref fa) := by rw [O.mg]; exact q1
        have q2' : PySem.W.keepIn X.K (.ref fa) = true := by rw [O.K]; exact q2
        have q3' : Binds X.K fd ps [] := by rw [O.K]; exact q3
        have q4' : FnOk X.prog X.w X.K X.mg X.base CX0 k fa fd ps (spKind c tbl) := by rw [O.prog, O.w, O.K, O.mg, O.base]; exact q4
        refine snd_kcall q4' (O.room.mono (by omega)) hgl q1' q2' q3' (ok_nm h6).1 (fun w cl fi hl => ?_) (snd_m F a O _ h9).d (noStar_ok h7 []) ((snd_l F xs O).a _ h10) hs hpl (mc_eqC (beq_iff_eq.mpr h1) h2 hst)
        have := h8 _ (lookup_mem' hl)
        simp only [Bool.and_eq_true, beq_iff_eq] at this
        obtain ⟨fa, fd, ps, e1, e2, e3, e4⟩ := F.fns fi (some cl) m this.2
        obtain ⟨j1, j2, _⟩ := e1
        exact ⟨this.1, fa, fd, ps, by rw [O.K]; exact j1, by rw [O.K]; exact j2, by rw [O.prog, O.w, O.K, O.mg, O.base]; exact e4, by rw [O.K]; exact e3⟩
      exact .mkV (PE.of (fun σ H Q q => calls_of q) key) (fun i z => nomatch z) (fun _ => rfl) rfl
    · cases h
  | .gcd xs, g, s, X, O, ex, h => by
    unfold chk at h
    split at h
    · rename_i x px e1 es pos
      simp only [Bool.and_eq_true, beq_iff_eq] at h
      obtain ⟨⟨⟨⟨h1, h2⟩, h3⟩, h4⟩, h5⟩ := h
      have hgl : Gl X x := by show X.env.scope.names.lookup _ = _; rw [O.sc]; exact h2
      have hst := (snd_l F xs O).ns _ h5
      exact .mkV (snd_gcd hgl (by rw [O.mg]; exact F.gcds x (by simpa using h1)) (ok_nm h3).1 ((snd_l F xs O).l _ h4) (noStar_ok (hst e1 List.mem_cons_self) es) (hpl_of fun e' he => hst e' (List.mem_cons_of_mem _ he))) (fun i z => nomatch z) (fun _ => rfl) rfl
    · cases h
  | .getDN i a, g, s, X, O, ex, h => by
    unfold chk at h
    split at h
    · rename_i x px f pa ea pos
      simp only [Bool.and_eq_true, beq_iff_eq] at h
      obtain ⟨⟨⟨⟨h1, h2⟩, h3⟩, h4⟩, h5⟩ := h
      subst h1
      obtain ⟨k1, k2, k3, k4⟩ := chkV_ok h3 O
      have hu := O.units
      have hse := noStar_ok (X := X) h4 []
      exact .mkV (snd_getDN (by omega) k1 k2 k3 k4 (snd_m F a O _ h5).d ⟨rfl, by rw [hse]; rfl, beq_iff_eq.mpr h2, by rw [hse]; rfl⟩) (fun i z => nomatch z) (fun _ => rfl) rfl
    · cases h
  | .dct1 a b, g, s, X, O, ex, h => by
    unfold chk at h
    split at h
    · simp only [Bool.and_eq_true] at h
      exact .mkV (snd_dct1 (snd_m F a O _ h.1).d (snd_m F b O _ h.2).d) (fun i z => nomatch z) (fun _ => rfl) rfl
    · cases h
  | .inD n a i, g, s, X, O, ex, h => by
    unfold chk at h
    split at h
    · simp only [Bool.and_eq_true, beq_iff_eq] at h
      obtain ⟨⟨⟨h1, h2⟩, h3⟩, h4⟩ := h
      subst h1
      obtain ⟨k1, k2, k3, k4⟩ := chkV_ok h3 O
      exact .mk' (snd_inD (by have := O.units; omega) h2 k1 k2 k3 k4 (snd_m F a O _ h4).d) (fun i z => nomatch z) (fun _ => sndT_inD (by have := O.units; omega) h2 k1 k2 k3 k4 (snd_m F a O _ h4).d) rfl
    · cases h
  | .getD i a, g, s, X, O, ex, h => by
    unfold chk at h
    split at h
    · simp only [Bool.and_eq_true] at h
      obtain ⟨⟨h1, h2⟩, h3⟩ := h
      obtain ⟨k1, k2, k3, k4⟩ := chkV_ok h2 O
      exact .mkV (snd_getD (by have := O.units; omega) k1 k2 k3 k4 (snd_m F a O _ h3).d (noSl_ok h1)) (fun i z => nomatch z) (fun _ => rfl) rfl
    · cases h
  | .lenset a, g, s, X, O, ex, h => by
    unfold chk at h
    split at h
    · simp only [Bool.and_eq_true, beq_iff_eq] at h
      obtain ⟨⟨⟨⟨h1, h2⟩, h3⟩, h4⟩, h5⟩ := h
      subst h1 h2
      obtain ⟨k1, k2⟩ := chkB_ok h3 O F
      obtain ⟨k3, k4⟩ := chkB_ok h4 O F
      have A := snd_m F a O _ h5
      exact .mkV (snd_lenset O.K O.calm k1 k2 k3 k4 A.h (noStar_ok A.ns _)) (fun i z => nomatch z) (fun _ => rfl) rfl
    · cases h
  | .rev a, g, s, X, O, ex, h => by
    unfold chk at h
    split at h
    · exact .mkV (snd_rev O.K (snd_m F a O _ h).h) (fun i z => nomatch z) (fun _ => rfl) rfl
    · cases h
  | .strr a b, g, s, X, O, ex, h => by
    unfold chk at h
    split at h
    · simp only [Bool.and_eq_true, beq_iff_eq] at h
      obtain ⟨⟨⟨⟨h1, h2⟩, h3⟩, h4⟩, h5⟩ := h
      subst h1 h2
      obtain ⟨k1, k2⟩ := chkB_ok h3 O F
      have A := snd_m F a O _ h4
      have B := snd_m F b O _ h5
      exact .mkV (snd_strr O.calm k1 k2 A.d B.d (noStar_ok A.ns _) (noStar_ok B.ns _)) (fun i z => nomatch z) (fun _ => rfl) rfl
    · cases h
  | .nul, g, s, X, O, ex, h => by
    unfold chk at h
    have n1 : ∀ {σ H Q}, TO c (ev C .nul) σ H Q → False := fun ⟨_, _, _, _, _, hf, _⟩ => by unfold ev at hf; cases hf
    refine ⟨PE.of (fun σ H Q q => n1 q) False.elim, ⟨fun pins s σ H Q I q => ?_⟩, fun _ => ⟨fun pins s σ H Q I q => ?_⟩, h⟩
    · obtain ⟨_, _, _, _, _, hf, _⟩ := q
      unfold evb lift ev at hf
      cases hf
    · obtain ⟨_, _, _, _, _, hf, _⟩ := q
      unfold tst lift ev at hf
      cases hf
  | .bin o a b, g, s, X, O, ex, h => by
    unfold chk at h
    split at h
    · simp only [Bool.and_eq_true, beq_iff_eq] at h
      obtain ⟨⟨h1, h2⟩, h3⟩ := h
      subst h1
      exact .mkV (snd_bin O.K (snd_m F a O _ h2).h (snd_m F b O _ h3).h) (fun i z => nomatch z) (fun _ => rfl) rfl
    · cases h
  | .neg a, g, s, X, O, ex, h => by
    unfold chk at h
    split at h
    · rw [Bool.and_eq_true] at h
      exact .mk' (snd_neg (snd_m F a O _ h.2).d) (fun i z => nomatch z) (fun _ => PT.ofVal (snd_neg (snd_m F a O _ h.2).d) fun _ => rfl) rfl
    · cases h
  | .cmp o a b, g, s, X, O, ex, h => by
    unfold chk at h
    split at h
    · simp only [Bool.and_eq_true, beq_iff_eq] at h
      obtain ⟨⟨⟨h1, h2⟩, h3⟩, h4⟩ := h
      subst h1
      exact .mk' (snd_cmp O.K O.units h2 (snd_m F a O _ h3).h (snd_m F b O _ h4).h) (fun i z => nomatch z) (fun _ => sndT_cmp O.K O.units h2 (snd_m F a O _ h3).h (snd_m F b O _ h4).h) rfl
    · cases h
  | .cmp2 o o' a b d, g, s, X, O, ex, h => by
    unfold chk at h
    split at h
    · simp only [Bool.and_eq_true, beq_iff_eq] at h
      obtain ⟨⟨⟨⟨⟨h1, h2⟩, h3⟩, h4⟩, h5⟩, h6⟩ := h
      subst h1 h2
      exact .mk' (snd_cmp2 O.K O.units h3 (snd_m F a O _ h4).d (snd_m F b O _ h5).d (snd_m F d O _ h6).d) (fun i z => nomatch z) (fun _ => sndT_cmp2 O.K O.units h3 (snd_m F a O _ h4).d (snd_m F b O _ h5).d (snd_m F d O _ h6).d) rfl
    · cases h
  | .isN n a, g, s, X, O, ex, h => by
    unfold chk at h
    split at h
    · simp only [Bool.and_eq_true, beq_iff_eq] at h
      obtain ⟨h1, h2⟩ := h
      subst h1
      exact .mk' (snd_isN (snd_m F a O _ h2).h) (fun i z => nomatch z) (fun _ => sndT_isN (snd_m F a O _ h2).h) rfl
    · cases h
  | .not a, g, s, X, O, ex, h => by
    unfold chk at h
    split at h
    · simp only [Bool.and_eq_true, Bool.not_eq_true'] at h
      exact .mk' (snd_not (snd_m F a O _ h.2).d) (fun i z => nomatch z) (fun _ => sndT_not ((snd_m F a O _ h.2).t h.1)) rfl
    · cases h
  | .and xs, g, s, X, O, ex, h => by
    unfold chk at h
    split at h
    · obtain ⟨q1, q2⟩ := (snd_l F xs O).an _ ‹_› h
      have hm : ∀ e, ev C (.and xs) e = (evAO C true xs e).map fun p => (dat (.bool p.1), p.2) := fun e => by rw [ev]
      exact .mk' (PE.congO (PE.val q1) fun e r he => by rw [hm] at he; rw [Option.map_map]; exact he) (fun i z => nomatch z) (fun _ => sndT_ao hm q2) rfl
    · cases h
  | .or xs, g, s, X, O, ex, h => by
    unfold chk at h
    split at h
    · obtain ⟨q1, q2⟩ := (snd_l F xs O).orr _ ‹_› h
      have hm : ∀ e, ev C (.or xs) e = (evAO C false xs e).map fun p => (dat (.bool p.1), p.2) := fun e => by rw [ev]
      exact .mk' (PE.congO (PE.val q1) fun e r he => by rw [hm] at he; rw [Option.map_map]; exact he) (fun i z => nomatch z) (fun _ => sndT_ao hm q2) rfl
    · cases h
  | .ife a b d, g, s, X, O, ex, h => by
    unfold chk at h
    split at h
    · simp only [Bool.and_eq_true, Bool.not_eq_true'] at h
      obtain ⟨⟨⟨h1, h2⟩, h3⟩, h4⟩ := h
      exact .mk' (snd_ife ((snd_m F a O _ h2).t h1) (snd_m F b O _ h3).v (snd_m F d O _ h4).v) (fun i z => nomatch z) (fun z => nomatch z) rfl
    · cases h
  | .tup xs, g, s, X, O, ex, h => by
    unfold chk at h
    split at h
    · exact .mkV (snd_tup ((snd_l F xs O).l _ h)) (fun i z => nomatch z) (fun _ => rfl) rfl
    · cases h
  | .lst xs, g, s, X, O, ex, h => by
    unfold chk at h
    split at h
    · exact .mkV (snd_lst ((snd_l F xs O).l _ h)) (fun i z => nomatch z) (fun _ => rfl) rfl
    · cases h
  | .dct0, g, s, X, O, ex, h => by
    unfold chk at h
    split at h
    · exact .mkV snd_dct0 (fun i z => nomatch z) (fun _ => rfl) rfl
    · cases h
  | .idx a i, g, s, X, O, ex, h => by
    unfold chk at h
    split at h
    · simp only [Bool.and_eq_true] at h
      obtain ⟨⟨h1, h2⟩, h3⟩ := h
      exact .mkV (snd_idx O.K (plainIx h1) (snd_m F a O _ h2).h (snd_m F i O _ h3).d) (fun i z => nomatch z) (fun _ => rfl) rfl
    · cases h
  | .slc a lo hi, g, s, X, O, ex, h => by
    unfold chk at h
    split at h
    · rename_i ea elo ehi p2 pos
      simp only [Bool.and_eq_true] at h
      obtain ⟨⟨h1, h2⟩, h3⟩ := h
      have ql : PO X elo (TP c (evo C lo)) := by
        cases elo with
        | none =>
          cases lo <;> first | exact snd_po_none | exact absurd (show false = true from h2) Bool.false_ne_true
        | some e =>
          simp only [Bool.and_eq_true, Bool.not_eq_true'] at h2
          exact snd_po_some (snd_m F lo O _ h2.2).d fun z => by rw [z] at h2; exact absurd h2.1 (by decide)
      have qh : PO X ehi (TP c (evo C hi)) := by
        cases ehi with
        | none =>
          cases hi <;> first | exact snd_po_none | exact absurd (show false = true from h3) Bool.false_ne_true
        | some e =>
          simp only [Bool.and_eq_true, Bool.not_eq_true'] at h3
          exact snd_po_some (snd_m F hi O _ h3.2).d fun z => by rw [z] at h3; exact absurd h3.1 (by decide)
      exact .mkV (snd_slc O.K (snd_m F a O _ h1).h ql qh) (fun i z => nomatch z) (fun _ => rfl) rfl
    · cases h
  | .call f xs, g, s, X, O, ex, h => by
    unfold chk at h
    split at h
    · rename_i x px es pos
      simp only [Bool.and_eq_true, beq_iff_eq] at h
      obtain ⟨⟨⟨h1, h2⟩, h3⟩, h4⟩ := h
      obtain ⟨fa, fd, ps, e1, e2, e3, e4⟩ := F.fns f none x h1
      have hgl : Gl X x := by show X.env.scope.names.lookup _ = _; rw [O.sc]; exact h2
      have e1' : X.mg x = some (.ref fa) := by rw [O.mg]; exact e1
      have e2' : PySem.W.keepIn X.K (.ref fa) = true := by rw [O.K]; exact e2
      have e3' : Binds X.K fd ps [] := by rw [O.K]; exact e3
      have e4' : FnOk X.prog X.w X.K X.mg X.base CX0 k fa fd ps (spOf c (C f)) := by rw [O.prog, O.w, O.K, O.mg, O.base]; exact e4
      have hr : Room k X.A := O.room.mono (by omega)
      have ha := (snd_l F xs O).a es h4
      cases es with
      | nil =>
        cases xs with
        | cons _ _ => unfold chkA at h4; cases h4
        | nil => exact .mkV (snd_call0 e4' hr hgl e1' e2' e3' (ok_nm h3).1) (fun i z => nomatch z) (fun _ => rfl) rfl
      | cons e es =>
        have hst := (snd_l F xs O).ns _ h4
        have hs := noStar_ok (X := X) (hst e List.mem_cons_self) es
        have hpl := hpl_of (X := X) (pos := pos) fun e' he => hst e' (List.mem_cons_of_mem _ he)
        exact .mkV (snd_call e4' hr hgl e1' e2' e3' (ok_nm h3).1 ha hs hpl) (fun i z => nomatch z) (fun _ => rfl) rfl
    · cases h
  | .bi o a, g, s, X, O, ex, h => by
    unfold chk at h
    split at h
    · simp only [Bool.and_eq_true, beq_iff_eq] at h
      obtain ⟨⟨⟨h1, h2⟩, h3⟩, h4⟩ := h
      subst h2
      obtain ⟨h5, h6⟩ := chkB_ok h3 O F
      have A := snd_m F a O _ h4
      by_cases z : o = .repr
      · subst z
        exact .mkV (snd_repr O.K O.units (O.rep h1) h5 h6 A.h (noStar_ok A.ns [])) (fun i z => nomatch z) (fun _ => rfl) rfl
      · exact .mkV (snd_bi O.K O.calm O.units h5 h6 z A.h (noStar_ok A.ns [])) (fun i z => nomatch z) (fun _ => rfl) rfl
    · cases h
  | .isi t a, g, s, X, O, ex, h => by
    unfold chk at h
    split at h
    · simp only [Bool.and_eq_true, beq_iff_eq] at h
      obtain ⟨⟨⟨⟨h1, h2⟩, h3⟩, h4⟩, h5⟩ := h
      subst h1 h2
      obtain ⟨k1, k2⟩ := chkB_ok h3 O F
      obtain ⟨k3, k4⟩ := chkB_ok h4 O F
      have A := snd_m F a O _ h5
      exact .mkV (snd_isi O.K k1 k2 k3 k4 A.h (noStar_ok A.ns _)) (fun i z => nomatch z) (fun _ => rfl) rfl
    · cases h
  | .lc own tg it cs elt, g, s, X, O, ex, h => by
    unfold chk at h
    split at h
    · simp only [Bool.and_eq_true, beq_iff_eq, List.all_eq_true, List.contains_iff_mem] at h
      obtain ⟨⟨⟨⟨⟨⟨⟨h1, h2⟩, h3⟩, h4⟩, h5⟩, h6⟩, h7⟩, h8⟩ := h
      subst h1
      obtain ⟨k1, k2⟩ := blk_ok h2 O
      exact .mkV (snd_lc O.calm (by rw [O.N]; exact O.nd) (snd_i F it O _ _ h4) k1 k2 h3 (fun sh H Cc cl fp => (sndTg (okX_blk O sh H Cc cl fp) tg _ h6).1) (fun sh H Cc cl fp => (snd_l F cs (okX_blk O sh H Cc cl fp)).f _ h7)
        (fun sh H Cc cl fp => (snd_m F elt (okX_blk O sh H Cc cl fp) _ h8).d) (noSet_ok h5)) (fun i z => nomatch z) (fun _ => rfl) rfl
    · cases h
  | .gen gk N cap own tg it cs elt, g, s, X, O, ex, h => by
    unfold chk at h
    split at h
    · simp only [Bool.and_eq_true, beq_iff_eq, decide_eq_true_eq] at h
      obtain ⟨⟨⟨⟨⟨⟨⟨⟨⟨⟨⟨h1, h2⟩, h3⟩, h4⟩, h5⟩, h6⟩, h7⟩, h8⟩, h9⟩, h10⟩, h11⟩, h12⟩ := h
      subst h2 h3
      obtain ⟨k1, k2⟩ := chkB_ok h4 O F
      obtain ⟨k3, k4⟩ := gen_sc h5 O
      obtain ⟨cc, P, k5, k6, k7⟩ := O.code h1
      have k6' : TabB X.base X.mg cc P := by rw [O.base, O.mg]; exact k6
      have hr : Room ((k + 7 * (g - 1) + 1) + 7) X.A := O.room.mono (by omega)
      have hN := h6
      have c1 := fun Xg I => (sndTg (okX_gen (Xg := Xg) O h1 hN k4 I) tg _ h10).1
      have c2 := fun Xg I => (snd_l F cs (okX_gen (Xg := Xg) O h1 hN k4 I)).f _ h11
      have c3 := fun Xg I => (snd_m F elt (okX_gen (Xg := Xg) O h1 hN k4 I) _ h12).d
      cases gk with
      | all => exact .mkV (snd_all hr k1 k2 k6' k5 k3 (snd_i F it O _ _ h8) k7 (cap_ok h7 O) c1 c2 c3 (noSetL_ok h9)) (fun i z => nomatch z) (fun _ => rfl) rfl
      | any => exact .mkV (snd_any hr k1 k2 k6' k5 k3 (snd_i F it O _ _ h8) k7 (cap_ok h7 O) c1 c2 c3 (noSetL_ok h9)) (fun i z => nomatch z) (fun _ => rfl) rfl
      | tuple => exact .mkV (snd_gtup hr k1 k2 k6' k5 k3 (snd_i F it O _ _ h8) k7 (cap_ok h7 O) c1 c2 c3 (noSetL_ok h9)) (fun i z => nomatch z) (fun _ => rfl) rfl
    · cases h
theorem snd_l (F : Facts c p k C) : ∀ (ms : Ms) {g : Nat} {s : Sc} {X : Cx}, OkX c k g s X → SndL c C p g s X ms
  | .nil, g, s, X, O => by
    refine ⟨fun es h => ?_, fun es h => ?_, fun es h => ?_, fun es h => ?_, fun es h => ?_, fun es pos h => ?_, fun es pos h => ?_⟩
    · unfold chks at h; cases es with | nil => exact snd_nil | cons _ _ => cases h
    · unfold chks at h; cases es with | nil => exact sndO_nil | cons _ _ => cases h
    · unfold chkA at h; cases es with | nil => exact snd_anil | cons _ _ => cases h
    · unfold chkA at h; cases es with | nil => exact fun e he => absurd he (by simp) | cons _ _ => cases h
    · unfold chkF at h; cases es with | nil => exact sndF_nil | cons _ _ => cases h
    · unfold chkAO at h; cases h
    · unfold chkAO at h; cases h
  | .cons a r, g, s, X, O => by
    have L := snd_l F r O
    refine ⟨fun es h => ?_, fun es h => ?_, fun es h => ?_, fun es h => ?_, fun es h => ?_, fun es pos h => ?_, fun es pos h => ?_⟩
    · unfold chks at h
      cases es with
      | nil => cases h
      | cons e es =>
        have h := Bool.and_eq_true_iff.mp h
        have A := snd_m F a O _ h.1
        exact snd_cons A.d (L.l _ h.2) (noStar_ok A.ns es)
    · unfold chks at h
      cases es with
      | nil => cases h
      | cons e es =>
        have h := Bool.and_eq_true_iff.mp h
        have A := snd_m F a O _ h.1
        exact sndO_cons A.v (L.o _ h.2) (noStar_ok A.ns es)
    · unfold chkA at h
      cases es with
      | nil => cases h
      | cons e es =>
        have h := Bool.and_eq_true_iff.mp h
        have A := snd_m F a O _ h.1
        cases hb : isBor a with
        | false => exact snd_acons (isBor_of hb) A.d (L.a _ h.2) (noStar_ok A.ns es)
        | true =>
          cases a with
          | bor i =>
            have h1 := h.1
            unfold chk at h1
            cases e with
            | Name x pos =>
              obtain ⟨q1, q2, q3, q4⟩ := chkV_ok h1 O
              exact snd_abor q1 q2 q3 q4 (L.a _ h.2)
            | _ => cases h1
          | _ => cases hb
    · unfold chkA at h
      cases es with
      | nil => cases h
      | cons e es =>
        have h := Bool.and_eq_true_iff.mp h
        intro e' he
        rcases List.mem_cons.mp he with rfl | he
        · exact (snd_m F a O _ h.1).ns
        · exact L.ns _ h.2 e' he
    · unfold chkF at h
      cases es with
      | nil => cases h
      | cons e es =>
        cases es with
        | cons _ _ => cases h
        | nil =>
          simp only [Bool.and_eq_true, Bool.not_eq_true'] at h
          obtain ⟨⟨h1, h2⟩, h3⟩ := h
          cases r with
          | cons _ _ => cases h3
          | nil => exact sndF_one ((snd_m F a O _ h2).t h1)
    · unfold chkAO at h
      cases es with
      | nil => cases h
      | cons e es =>
        simp only [Bool.and_eq_true, Bool.not_eq_true'] at h
        obtain ⟨⟨h1, h2⟩, h3⟩ := h
        have A := snd_m F a O _ h2
        cases es with
        | nil =>
          cases r with
          | cons _ _ => cases h3
          | nil => exact ⟨snd_ao1 A.d, sndT_one (A.t h1)⟩
        | cons e2 es =>
          obtain ⟨q1, q2⟩ := L.an _ pos h3
          exact ⟨snd_and A.d q1, sndT_and (A.t h1) q2⟩
    · unfold chkAO at h
      cases es with
      | nil => cases h
      | cons e es =>
        simp only [Bool.and_eq_true, Bool.not_eq_true'] at h
        obtain ⟨⟨h1, h2⟩, h3⟩ := h
        have A := snd_m F a O _ h2
        cases es with
        | nil =>
          cases r with
          | cons _ _ => cases h3
          | nil => exact ⟨snd_ao1 A.d, sndT_one (A.t h1)⟩
        | cons e2 es =>
          obtain ⟨q1, q2⟩ := L.orr _ pos h3
          exact ⟨snd_or A.d q1, sndT_or (A.t h1) q2⟩
theorem snd_i (F : Facts c p k C) : ∀ (it : Itm) {g : Nat} {s : Sc} {X : Cx}, OkX c k g s X → ∀ tg e, chkI p g s it tg e = true → PI X tg e (TIt c (evi C it))
  | .dat a, g, s, X, O, tg, e, h => by
    unfold chkI at h
    exact sndI_dat O.K (snd_m F a O _ h).h
  | .rng a, g, s, X, O, tg, e, h => by
    unfold chkI at h
    split at h
    · simp only [Bool.and_eq_true, beq_iff_eq] at h
      obtain ⟨⟨h1, h2⟩, h3⟩ := h
      subst h1
      obtain ⟨k1, k2⟩ := chkB_ok h2 O F
      have A := snd_m F a O _ h3
      exact sndI_rng k1 k2 A.d (noStar_ok A.ns [])
    · cases h
  | .rng2 a b, g, s, X, O, tg, e, h => by
    unfold chkI at h
    split at h
    · simp only [Bool.and_eq_true, beq_iff_eq] at h
      obtain ⟨⟨⟨h1, h2⟩, h3⟩, h4⟩ := h
      subst h1
      obtain ⟨k1, k2⟩ := chkB_ok h2 O F
      have A := snd_m F a O _ h3
      have B := snd_m F b O _ h4
      exact sndI_rng2 k1 k2 A.d B.d (by rw [noStar_ok A.ns, noStar_ok B.ns]; rfl) (noStar_ok B.ns [])
    · cases h
  | .zip a b, g, s, X, O, tg, e, h => by
    unfold chkI at h
    split at h
    · simp only [Bool.and_eq_true, beq_iff_eq] at h
      obtain ⟨⟨⟨⟨h0, h1⟩, h2⟩, h3⟩, h4⟩ := h
      subst h1
      obtain ⟨k1, k2⟩ := chkB_ok h2 O F
      have A := snd_m F a O _ h3
      have B := snd_m F b O _ h4
      cases tg with
      | Tuple es kk pp => exact sndI_zip O.K k1 k2 A.h B.h (noStar_ok A.ns _) (noStar_ok B.ns [])
      | _ => cases h0
    · cases h
  | .enm a, g, s, X, O, tg, e, h => by
    unfold chkI at h
    split at h
    · simp only [Bool.and_eq_true, beq_iff_eq] at h
      obtain ⟨⟨⟨h0, h1⟩, h2⟩, h3⟩ := h
      subst h1
      obtain ⟨k1, k2⟩ := chkB_ok h2 O F
      have A := snd_m F a O _ h3
      cases tg with
      | Tuple es kk pp => exact sndI_enm O.K k1 k2 A.h (noStar_ok A.ns [])
      | _ => cases h0
    · cases h
end
end
end MP
set_option linter.all false
set_option maxRecDepth 100000
set_option maxHeartbeats 4000000
/-! Statements that pass the checker; defs. -/
namespace MP
open PySem PySem.Spec PyProof.Rows L2 GxR

def asPure {α : Type} : Sem α → Option α
  | .pure a => some a
  | _ => none
theorem asPure_some {α : Type} {t : Sem α} {a : α} (h : asPure t = some a) : t = pure a := by
  cases t with
  | pure b => cases h; rfl
  | _ => cases h
/-- an environment of that scope -/
def envS (sc : Scope) : Env := { scope := sc, locals := 0, globals := 0, cells := [] }
section
variable {env : Env} {sc : Scope}
theorem swappedStores_env (h : env.scope = sc) (ts : List Expr) (v : Expr) : swappedStores ts v env = swappedStores ts v (envS sc) := by
  subst h
  rfl
theorem swapsWith_env (h : env.scope = sc) (v : Expr) (t : Option Expr) (l : Nat) : swapsWith v t l env = swapsWith v t l (envS sc) := by
  subst h
  rfl
end
def isLc : M → Bool
  | .lc _ _ _ _ _ => true
  | _ => false
def nameOf : Expr → Option Str
  | .Name x _ => some x
  | _ => none
def lenB (a b : Pos) : Bool := a.endLine == b.line
mutual
def chkS (p : Pg) (g : Nat) (s : Sc) (io : List Nat) : Sm → Stmt → Bool
  | .set i m, st => match st with
    | .Assign [.Name x px] e pos => chkSt s i x && !io.contains i && chk p g s m e && (asPure (swapsWith e (some (.Name x px)) pos.line (envS s.sc)) == some false || (asPure (swapsWith e (some (.Name x px)) pos.line (envS s.sc)) == some true && isLc m && lk s.sc x == some .local))
    | _ => false
  | .seti i ix m, st => match st with
    | .Assign [.Subscript (.Name x _) eix _] e _ => chkV s i x && noSlice eix && chk p g s m e && chk p g s ix eix
    | _ => false
  | .augi i o ix m, st => match st with
    | .AugAssign (.Subscript (.Name x _) eix _) op e _ => op == opOf o && isAug o && chkV s i x && noSlice eix && chk p g s m e && chk p g s ix eix
    | _ => false
  | .aug i o m, st => match st with
    | .AugAssign (.Name x _) op e _ => op == opOf o && isAug o && chkSt s i x && !io.contains i && chk p g s m e
    | _ => false
  | .unp tg m, st => match st with
    | .Assign [.Tuple es k pt] e _ => chkTg s tg (.Tuple es k pt) && (tgs tg).all (fun j => !io.contains j) && asPure (swappedStores [.Tuple es k pt] e (envS s.sc)) == some none && chk p g s m e
    | _ => false
  | .par is xs, st => match is, st with
    | [i, j], .Assign [.Tuple [.Name x px, .Name y py] kt pt] (.Tuple [a, b] k2 pt2) _ => (chkSt s i x && chkSt s j y && !io.contains i && !io.contains j && asPure (swappedStores [.Tuple [.Name x px, .Name y py] kt pt] (.Tuple [a, b] k2 pt2) (envS s.sc)) == some none && chks p g s xs [a, b]) || s.N[i]? == some x && s.N[j]? == some y && i != j && lk s.sc x == some .local && lk s.sc y == some .local && !io.contains i && !io.contains j &&
      asPure (swappedStores [.Tuple [.Name x px, .Name y py] kt pt] (.Tuple [a, b] k2 pt2) (envS s.sc)) == some (some [x, y]) && chks p g s xs [a, b]
    | [i, j, l], .Assign [.Tuple [.Name x px, .Name y py, .Name z pz] kt pt] (.Tuple [a, b, d] k2 pt2) _ => (chkSt s i x && chkSt s j y && chkSt s l z && !io.contains i && !io.contains j && !io.contains l && asPure (swappedStores [.Tuple [.Name x px, .Name y py, .Name z pz] kt pt] (.Tuple [a, b, d] k2 pt2) (envS s.sc)) == some none && chks p g s xs [a, b, d]) || s.N[i]? == some x && s.N[j]? == some y && s.N[l]? == some z && i != j && i != l && j != l && lk s.sc x == some .local && lk s.sc y == some .local && lk s.sc z == some .local &&
      !io.contains i && !io.contains j && !io.contains l && asPure (swappedStores [.Tuple [.Name x px, .Name y py, .Name z pz] kt pt] (.Tuple [a, b, d] k2 pt2) (envS s.sc)) == some (some [x, y, z]) && chks p g s xs [a, b, d]
    | _, _ => false
  | .fset cl i f m, st => match st with
    | .Assign [.Attribute (.Name x px) f' p2] e pos => f == f' && chkV s i x && chkC p cl f && chk p g s m e && asPure (swapsWith e (some (.Attribute (.Name x px) f p2)) pos.line (envS s.sc)) == some false
    | _ => false
  | .funp cl i f g' m, st => match st with
    | .Assign [.Tuple [.Attribute (.Name x px) f1 p2, .Attribute (.Name y py) f2 p3] kt pt] e pos => f == f1 && g' == f2 && x == y && chkV s i x && chkC p cl f && chkC p cl g' && chk p g s m e && asPure (swappedStores [.Tuple [.Attribute (.Name x px) f p2, .Attribute (.Name x py) g' p3] kt pt] e (envS s.sc)) == some none
    | _ => false
  | .faug cl i f o j k, st => match st with
    | .AugAssign (.Subscript (.Attribute (.Name x _) f' _) (.Name y _) _) op (.Name z _) _ => f == f' && op == opOf o && isAug o && chkV s i x && chkV s j y && chkV s k z && chkC p cl f
    | _ => false
  | .dput i ix m, st => match st with
    | .Assign [.Subscript (.Name x px) eix p2] e pos => chkV s i x && chk p g s m e && chk p g s ix eix && asPure (swapsWith e (some (.Subscript (.Name x px) eix p2)) pos.line (envS s.sc)) == some false
    | _ => false
  | .app i m, st => match st with
    | .Expr (.Call (.Attribute (.Name x _) nm p3) [e] [] p4) _ => chkV s i x && nm == "append" && lenB p3 p4 && chk p g s m e
    | _ => false
  | .ex m, st => isNul m || (match st with
    | .Expr e pos => asPure (swapsWith e none pos.line (envS s.sc)) == some false && chk p g s m e
    | _ => false)
  | .ret m, st => match st with
    | .Return (some e) _ => chk p g s m e
    | _ => false
  | .retN, st => match st with
    | .Return none _ => true
    | _ => false
  | .ife c a b, st => match st with
    | .If ec ea eb _ => !isIfe c && chk p g s c ec && chkSs p g s io a ea && chkSs p g s io b eb
    | _ => false
  | .forr tg it b, st => match st with
    | .For etg eit eb [] _ => (tgs tg).all (fun j => !io.contains j) && chkTg s tg etg && chkI p g s it etg eit && noSet eit && chkSs p g s io b eb
    | _ => false
  | .whl c b, st => match st with
    | .While ec eb [] _ => !isIfe c && chk p g s c ec && chkSs p g s io b eb
    | _ => false
  | .pss, st => match st with
    | .Pass _ => true
    | _ => false
  | .brk, st => match st with
    | .Break _ => true
    | _ => false
  | .cnt, st => match st with
    | .Continue _ => true
    | _ => false
def chkSs (p : Pg) (g : Nat) (s : Sc) (io : List Nat) : Ss → List Stmt → Bool
  | .nil, es => match es with
    | [] => true
    | _ => false
  | .cons a r, es => match es with
    | e :: es => chkS p g s io a e && chkSs p g s io r es
    | _ => false
end
section
variable {c : Cn} {p : Pg} {k g : Nat} {C : CallF} {s : Sc} {X : Cx} {io : List Nat}
theorem isTrue_swaps {e : Expr} {px : Pos} {x : Str} (h : noSlice e = true) : True := trivial
theorem swaps_sub {o i : Expr} {p2 : Pos} (e : Expr) (l : Nat) (env : Env) : swapsWithSole [.Subscript o i p2] e l env = pure false := by
  cases e <;> rfl
theorem swaps_tup {es : List Expr} {kk : Nat} {p2 : Pos} (e : Expr) (l : Nat) (env : Env) : swapsWithSole [.Tuple es kk p2] e l env = pure false := by
  cases e <;> rfl
theorem asg_sub {o i : Expr} {p2 : Pos} (h : noSlice i = true) : ∀ v, assign (.Subscript o i p2) X.env v = (do
      let ov ← holding [v] (eval o X.env)
      let iv ← holding [v, ov] (eval i X.env)
      standAt p2
      holding [v, ov, iv] (setItem ov iv v)
      release [v, ov, iv] []) := by
  intro v
  cases i <;> first | rfl | exact absurd (show false = true from h) Bool.false_ne_true
theorem aug_sub {i : Expr} (h : noSlice i = true) : ∀ ov iv new, augStore i ov iv new = (do holding [new, ov, iv] (setItem ov iv new); release [new, ov, iv] []; pure .next) := by
  intro ov iv new
  cases i <;> first | rfl | exact absurd (show false = true from h) Bool.false_ne_true
theorem nomem {i : Nat} (h : (!io.contains i) = true) : i ∉ io := fun z => by
  rw [List.contains_iff_mem.mpr z] at h
  cases h
mutual
theorem snd_s (F : Facts c p k C) : ∀ (sm : Sm) {g : Nat} {s : Sc} {X : Cx}, OkX c k g s X → X.xe = (fun _ _ => False) → ∀ st, chkS p g s io sm st = true → PS X st (TSm c io (evS C sm))
  | .set i m, g, s, X, O, xe, st, h => by
    unfold chkS at h
    split at h
    · rename_i x px e pos
      simp only [Bool.and_eq_true, Bool.or_eq_true] at h
      obtain ⟨⟨⟨h1, h2⟩, h3⟩, h4⟩ := h
      obtain ⟨k1, k2, k3⟩ := chkSt_ok h1 O
      have nd : X.N.Nodup := by rw [O.N]; exact O.nd
      rcases h4 with h4 | ⟨⟨h4, h5⟩, h6⟩
      · have sw : swapsWith e (some (.Name x px)) pos.line X.env = pure false := by rw [swapsWith_env O.sc]; exact asPure_some (beq_iff_eq.mp h4)
        exact sndS_set (nomem h2) (ps_set nd k1 k2 (snd_m F m O e h3).v sw k3)
      · have sw : swapsWith e (some (.Name x px)) pos.line X.env = pure true := by rw [swapsWith_env O.sc]; exact asPure_some (beq_iff_eq.mp h4)
        have hl : X.env.scope.names.lookup x = some .local := by rw [O.sc]; exact beq_iff_eq.mp h6
        cases m with
        | lc own tg it cs elt =>
          unfold chk at h3
          split at h3
          · simp only [Bool.and_eq_true, beq_iff_eq, List.all_eq_true, List.contains_iff_mem] at h3
            obtain ⟨⟨⟨⟨⟨⟨⟨j1, j2⟩, j3⟩, j4⟩, j5⟩, j6⟩, j7⟩, j8⟩ := h3
            subst j1
            obtain ⟨q1, q2⟩ := blk_ok j2 O
            refine sndS_set (nomem h2) (PS.imp (ps_setLc O.calm nd k1 hl sw (snd_i F it O _ _ j4) q1 (fun sh H Cc cl fp => (sndTg (okX_blk O sh H Cc cl fp) tg _ j6).1) (fun sh H Cc cl fp => (snd_l F cs (okX_blk O sh H Cc cl fp)).f _ j7)
              (fun sh H Cc cl fp => (snd_m F elt (okX_blk O sh H Cc cl fp) _ j8).d) (noSet_ok j5)) fun D σ H w => ?_)
            have w' : TO c (ev C (.lc own tg it cs elt)) σ H fun x H1 => gName i x σ H1 D.nx := w
            have := tlc_ok j3 w'
            show tLc _ _ _ _ _ σ H fun x H1 => gName i x σ H1 D.nx
            rw [q2]
            exact this
          · cases h3
        | _ => cases h5
    · cases h
  | .seti i ix m, g, s, X, O, xe, st, h => by
    unfold chkS at h
    split at h
    · simp only [Bool.and_eq_true] at h
      obtain ⟨⟨⟨h1, h2⟩, h3⟩, h4⟩ := h
      obtain ⟨k1, k2, k3, k4⟩ := chkV_ok h1 O
      exact sndS_seti k1 k2 k3 k4 (snd_m F m O _ h3).d (snd_m F ix O _ h4).d (asg_sub h2) (swaps_sub _ _ _)
    · cases h
  | .augi i o ix m, g, s, X, O, xe, st, h => by
    unfold chkS at h
    split at h
    · simp only [Bool.and_eq_true, beq_iff_eq] at h
      obtain ⟨⟨⟨⟨⟨h0, h1⟩, h2⟩, h3⟩, h4⟩, h5⟩ := h
      subst h0
      obtain ⟨k1, k2, k3, k4⟩ := chkV_ok h2 O
      exact sndS_augi O.K h1 k1 k2 k3 k4 (snd_m F m O _ h4).d (snd_m F ix O _ h5).d (aug_sub h3)
    · cases h
  | .aug i o m, g, s, X, O, xe, st, h => by
    unfold chkS at h
    split at h
    · simp only [Bool.and_eq_true, beq_iff_eq] at h
      obtain ⟨⟨⟨⟨h0, h1⟩, h2⟩, h3⟩, h4⟩ := h
      subst h0
      obtain ⟨k1, k2, k3⟩ := chkSt_ok h2 O
      exact sndS_aug (nomem h3) h1 (by rw [O.N]; exact O.nd) k1 k2 k3 (snd_m F m O _ h4).d
    · cases h
  | .unp tg m, g, s, X, O, xe, st, h => by
    unfold chkS at h
    split at h
    · simp only [Bool.and_eq_true, beq_iff_eq, List.all_eq_true] at h
      obtain ⟨⟨⟨h1, h2⟩, h3⟩, h4⟩ := h
      exact sndS_unp (fun j hj z => nomem (h2 j z) hj) (snd_m F m O _ h4).d (sndTg O tg _ h1).1 (swaps_tup _ _ _) (by rw [swappedStores_env O.sc]; exact asPure_some h3) (by rfl)
    · cases h
  | .par is xs, g, s, X, O, xe, st, h => by
    unfold chkS at h
    split at h
    · simp only [Bool.or_eq_true, Bool.and_eq_true, beq_iff_eq, bne_iff_ne] at h
      have nd : X.N.Nodup := by rw [O.N]; exact O.nd
      rcases h with h | h
      · obtain ⟨⟨⟨⟨⟨h1, h2⟩, h3⟩, h4⟩, h5⟩, h6⟩ := h
        obtain ⟨a1, a2, a3⟩ := chkSt_ok h1 O
        obtain ⟨b1, b2, b3⟩ := chkSt_ok h2 O
        exact sndS_parU2 O.calm ⟨nomem h3, nomem h4⟩ (pg_name nd a1 a2 a3) (pg_name nd b1 b2 b3) ((snd_l F xs O).o _ h6) (swaps_tup _ _ _) (by rw [swappedStores_env O.sc]; exact asPure_some h5)
      · obtain ⟨⟨⟨⟨⟨⟨⟨⟨h1, h2⟩, h3⟩, h4⟩, h5⟩, h6⟩, h7⟩, h8⟩, h9⟩ := h
        exact sndS_par2 O.calm nd (by rw [O.N]; exact h1) (by rw [O.N]; exact h2) h3 (by rw [O.sc]; exact h4) (by rw [O.sc]; exact h5) ⟨nomem h6, nomem h7⟩ ((snd_l F xs O).o _ h9) (by rw [swappedStores_env O.sc]; exact asPure_some h8)
    · simp only [Bool.or_eq_true, Bool.and_eq_true, beq_iff_eq, bne_iff_ne] at h
      have nd : X.N.Nodup := by rw [O.N]; exact O.nd
      rcases h with h | h
      · obtain ⟨⟨⟨⟨⟨⟨⟨h1, h2⟩, h2'⟩, h3⟩, h4⟩, h4'⟩, h5⟩, h6⟩ := h
        obtain ⟨a1, a2, a3⟩ := chkSt_ok h1 O
        obtain ⟨b1, b2, b3⟩ := chkSt_ok h2 O
        obtain ⟨d1, d2, d3⟩ := chkSt_ok h2' O
        exact sndS_parU3 O.calm ⟨nomem h3, nomem h4, nomem h4'⟩ (pg_name nd a1 a2 a3) (pg_name nd b1 b2 b3) (pg_name nd d1 d2 d3) ((snd_l F xs O).o _ h6) (swaps_tup _ _ _) (by rw [swappedStores_env O.sc]; exact asPure_some h5)
      · obtain ⟨⟨⟨⟨⟨⟨⟨⟨⟨⟨⟨⟨⟨h1, h2⟩, h3⟩, h4⟩, h5⟩, h6⟩, h7⟩, h8⟩, h9⟩, h10⟩, h11⟩, h12⟩, h13⟩, h14⟩ := h
        exact sndS_par3 O.calm nd (by rw [O.N]; exact h1) (by rw [O.N]; exact h2) (by rw [O.N]; exact h3) h4 h5 h6 (by rw [O.sc]; exact h7) (by rw [O.sc]; exact h8) (by rw [O.sc]; exact h9) ⟨nomem h10, nomem h11, nomem h12⟩ ((snd_l F xs O).o _ h14) (by rw [swappedStores_env O.sc]; exact asPure_some h13)
    · cases h
  | .fset cl i f m, g, s, X, O, xe, st, h => by
    unfold chkS at h
    split at h
    · simp only [Bool.and_eq_true, beq_iff_eq] at h
      obtain ⟨⟨⟨⟨h1, h2⟩, h3⟩, h4⟩, h5⟩ := h
      subst h1
      obtain ⟨k1, k2, k3, k4⟩ := chkV_ok h2 O
      obtain ⟨k5, k6⟩ := chkC_ok h3 F
      exact sndS_fset O.K k1 k2 k3 k4 k5 k6 (snd_m F m O _ h4).v (by rw [swapsWith_env O.sc]; exact asPure_some h5)
    · cases h
  | .funp cl i f g' m, g, s, X, O, xe, st, h => by
    unfold chkS at h
    split at h
    · simp only [Bool.and_eq_true, beq_iff_eq] at h
      obtain ⟨⟨⟨⟨⟨⟨⟨h1, h2⟩, h3⟩, h4⟩, h5⟩, h6⟩, h7⟩, h8⟩ := h
      subst h1 h2 h3
      obtain ⟨k1, k2, k3, k4⟩ := chkV_ok h4 O
      obtain ⟨k5, k6⟩ := chkC_ok h5 F
      obtain ⟨_, k7⟩ := chkC_ok h6 F
      exact sndS_funp O.K O.calm k1 k2 k3 k4 k5 k6 k7 (snd_m F m O _ h7).d (swaps_tup _ _ _) (by rw [swappedStores_env O.sc]; exact asPure_some h8)
    · cases h
  | .faug cl i f o j l, g, s, X, O, xe, st, h => by
    unfold chkS at h
    split at h
    · simp only [Bool.and_eq_true, beq_iff_eq] at h
      obtain ⟨⟨⟨⟨⟨⟨h1, h2⟩, h3⟩, h4⟩, h5⟩, h6⟩, h7⟩ := h
      subst h1 h2
      obtain ⟨k1, k2, k3, k4⟩ := chkV_ok h4 O
      obtain ⟨j1, j2, j3, j4⟩ := chkV_ok h5 O
      obtain ⟨l1, l2, l3, l4⟩ := chkV_ok h6 O
      obtain ⟨k5, k6⟩ := chkC_ok h7 F
      exact sndS_faug O.K h3 k1 k2 k3 k4 j1 j2 j3 j4 l1 l2 l3 l4 k5 k6 rfl
    · cases h
  | .dput i ix m, g, s, X, O, xe, st, h => by
    unfold chkS at h
    split at h
    · simp only [Bool.and_eq_true, beq_iff_eq] at h
      obtain ⟨⟨⟨h1, h2⟩, h3⟩, h4⟩ := h
      obtain ⟨k1, k2, k3, k4⟩ := chkV_ok h1 O
      exact sndS_dput (by have := O.units; omega) k1 k2 k3 k4 (snd_m F m O _ h2).d (snd_m F ix O _ h3).d (by rw [swapsWith_env O.sc]; exact asPure_some h4)
    · cases h
  | .app i m, g, s, X, O, xe, st, h => by
    unfold chkS at h
    split at h
    · simp only [Bool.and_eq_true, beq_iff_eq] at h
      obtain ⟨⟨⟨h1, h2⟩, h3⟩, h4⟩ := h
      subst h2
      obtain ⟨k1, k2, k3, k4⟩ := chkV_ok h1 O
      have A := snd_m F m O _ h4
      exact sndS_app O.K k1 k2 k3 k4 A.d h3 (noStar_ok A.ns [])
    · cases h
  | .ex m, g, s, X, O, xe, st, h => by
    unfold chkS at h
    rcases Bool.or_eq_true_iff.mp h with h | h
    · refine ⟨fun pins s σ H D I q => ?_⟩
      obtain ⟨_, _, _, _, _, hf, _⟩ := q
      cases m with
      | nul => unfold evS ev at hf; cases hf
      | _ => cases h
    split at h
    · simp only [Bool.and_eq_true, beq_iff_eq] at h
      exact sndS_ex (snd_m F m O _ h.2).v (by rw [swapsWith_env O.sc]; exact asPure_some h.1)
    · cases h
  | .ret m, g, s, X, O, xe, st, h => by
    unfold chkS at h
    split at h
    · exact sndS_ret (snd_m F m O _ h).v
    · cases h
  | .retN, g, s, X, O, xe, st, h => by
    unfold chkS at h
    split at h
    · exact sndS_retN
    · cases h
  | .ife a b d, g, s, X, O, xe, st, h => by
    unfold chkS at h
    split at h
    · simp only [Bool.and_eq_true, Bool.not_eq_true'] at h
      obtain ⟨⟨⟨h1, h2⟩, h3⟩, h4⟩ := h
      exact sndS_if ((snd_m F a O _ h2).t h1) (snd_ss F b O xe _ h3) (snd_ss F d O xe _ h4)
    · cases h
  | .forr tg it b, g, s, X, O, xe, st, h => by
    unfold chkS at h
    split at h
    · simp only [Bool.and_eq_true, List.all_eq_true] at h
      obtain ⟨⟨⟨⟨h1, h2⟩, h3⟩, h4⟩, h5⟩ := h
      exact sndS_for (by rw [xe]; exact PassesOwn.never) O.calm (fun j hj z => nomem (h1 j z) hj) (snd_i F it O _ _ h3) (sndTg O tg _ h2).1 (snd_ss F b O xe _ h5) (noSet_ok h4)
    · cases h
  | .whl a b, g, s, X, O, xe, st, h => by
    unfold chkS at h
    split at h
    · simp only [Bool.and_eq_true, Bool.not_eq_true'] at h
      obtain ⟨⟨h1, h2⟩, h3⟩ := h
      exact sndS_whl (by rw [xe]; exact PassesOwn.never) ((snd_m F a O _ h2).t h1) (snd_ss F b O xe _ h3)
    · cases h
  | .pss, g, s, X, O, xe, st, h => by
    unfold chkS at h
    split at h
    · exact sndS_pass
    · cases h
  | .brk, g, s, X, O, xe, st, h => by
    unfold chkS at h
    split at h
    · exact sndS_brk
    · cases h
  | .cnt, g, s, X, O, xe, st, h => by
    unfold chkS at h
    split at h
    · exact sndS_cnt
    · cases h
theorem snd_ss (F : Facts c p k C) : ∀ (ss : Ss) {g : Nat} {s : Sc} {X : Cx}, OkX c k g s X → X.xe = (fun _ _ => False) → ∀ sts, chkSs p g s io ss sts = true → PSs X sts (TSm c io (evSs C ss))
  | .nil, g, s, X, O, xe, sts, h => by
    unfold chkSs at h
    cases sts with
    | nil => exact sndS_nil
    | cons _ _ => cases h
  | .cons a r, g, s, X, O, xe, sts, h => by
    unfold chkSs at h
    cases sts with
    | nil => cases h
    | cons st sts =>
      have h := Bool.and_eq_true_iff.mp h
      exact sndS_cons (snd_s F a O xe _ h.1) (snd_ss F r O xe _ h.2)
end
end
end MP
set_option linter.all false
set_option maxRecDepth 100000
set_option maxHeartbeats 4000000
/-! Defs that pass the checker. -/
namespace MP
open PySem PySem.Spec PyProof.Rows L2 GxR

def undoc : List Stmt → List Stmt
  | .Expr (.Constant (.str x) j p) q :: r => r
  | l => l
def chkR (p : Pg) (rp : Bool) (d : DI) : Bool :=
  C8.scC d.N d.ps d.scope && chkSs p d.g ⟨d.N, d.scope, d.scope, rp⟩ d.fn.io d.fn.body (undoc d.body) && d.fn.np == d.ps.length && d.fn.nn == d.N.length && decide (d.g ≤ 1)
abbrev chkD (p : Pg) (d : DI) : Bool := chkR p false d
section
variable {c : Cn} {p : Pg} {k : Nat} {C : CallF}
theorem undoc_ok {X : Cx} {io : List Nat} {ss : Ss} : ∀ {b : List Stmt}, PSs X (undoc b) (TSm c io (evSs C ss)) → PSs X b (TSm c io (evSs C ss))
  | [], h => h
  | st :: r, h => by
    unfold undoc at h
    split at h
    · next heq =>
      cases heq
      exact sndS_doc h
    · next heq => exact h
theorem back_get {io : List Nat} {np j : Nat} {e : Env'} {o : O} (h : (back io np e)[j]? = some (some o)) : j ∈ io ∧ j < np ∧ e[j]? = some (some o) := by
  unfold back at h
  rw [List.getElem?_map] at h
  cases q : (List.range np)[j]? with
  | none => rw [q] at h; cases h
  | some i =>
    rw [q] at h
    obtain ⟨h1, h2⟩ := List.getElem?_eq_some_iff.mp q
    rw [List.getElem_range] at h2
    subst h2
    have h : (if j ∈ io then (e[j]?).join else none) = some o := Option.some.inj h
    by_cases hi : j ∈ io
    · rw [if_pos hi] at h
      refine ⟨hi, by simpa using h1, ?_⟩
      cases z : e[j]? with
      | none => rw [z] at h; cases h
      | some x => rw [z] at h; rw [show x = some o from h]
    · rw [if_neg hi] at h
      cases h
theorem back_length {io : List Nat} {np : Nat} {e : Env'} : (back io np e).length = np := by
  unfold back
  rw [List.length_map, List.length_range]
theorem def_ok (d : DI) (h : chkD p d = true) {qual : Str} {f : Addr} {fd : FuncData} (F : FunD c.K d.nm qual d.params d.body d.scope [] [] f fd)
    (hc : 0 < d.g → ∀ cc, fd.code = .ref cc → ∃ P, TabB c.base c.mg cc P ∧ P ∈ c.tabs) (FC : Facts c p k C) : FnOk c.prog c.w c.K c.mg c.base CX0 (k + 7 * d.g + 2) f fd d.ps (spOf c (callF d.fn C)) := by
  unfold chkD chkR at h
  simp only [Bool.and_eq_true, beq_iff_eq, decide_eq_true_eq] at h
  obtain ⟨⟨⟨⟨h1, h2⟩, h3⟩, h4⟩, h5⟩ := h
  have S := C8.fnScope_by h1
  obtain ⟨oc, od, dV, kV, doc, pm, an, cdv, ct, osl, rfl, lk0, hcd, _, _⟩ := F.ex
  have cN : 0 < d.g → ∃ cc P, cdv = .ref cc ∧ TabB c.base c.mg cc P ∧ P ∈ c.tabs := fun hg => by
    obtain ⟨cc, hcc⟩ := He.codeIn_ref hcd
    obtain ⟨P, q1, q2⟩ := hc hg cc hcc
    exact ⟨cc, P, hcc, q1, q2⟩
  refine fn_of lk0 hcd S (fun vs H Q E hs => ?_) fun A outer s H vs Q E hr hs => ?_
  · obtain ⟨ω, os, fs, r, R, hf, q⟩ := hs
    unfold callF at hf
    split at hf
    · next z =>
      have := R.len
      rw [List.length_map, List.length_map] at this
      rw [this, z, h3]
    · cases hf
  · refine ⟨TSm c d.fn.io (evSs C d.fn.body), PSs.nox (undoc_ok (snd_ss FC d.fn.body (g := d.g) (s := ⟨d.N, d.scope, d.scope, false⟩) ?_ rfl _ h2)), ?_⟩
    · exact ⟨rfl, rfl, rfl, rfl, rfl, rfl, S.nd, rfl, rfl, hr, fun _ _ => rfl, h5, (fun z => nomatch z), cN⟩
    · obtain ⟨ω, os, fs, r, R, hf, q⟩ := hs
      unfold callF at hf
      split at hf
      case isFalse => cases hf
      next z =>
      obtain ⟨⟨fl, e'⟩, h6, hf⟩ := Option.bind_eq_some_iff.mp hf
      have lv : vs.length = os.length := by
        have := R.len
        rwa [List.length_map, List.length_map] at this
      have hps : d.ps.length ≤ d.N.length := by
        have := congrArg List.length S.pre
        rw [List.length_take] at this
        omega
      have R0 : Rel c ω (start d.N vs) H (os.map some ++ List.replicate (d.fn.nn - d.fn.np) none) := by
        refine ⟨?_, fun i o hi => ?_, R.tab, R.own⟩
        · unfold L2.start
          simp only [List.length_append, List.length_map, List.length_replicate]
          omega
        · by_cases hlt : i < os.length
          · rw [List.getElem?_append_left (by rw [List.length_map]; exact hlt)] at hi
            obtain ⟨v, q1, q2⟩ := R.slot i o hi
            exact ⟨v, by unfold L2.start; rw [List.getElem?_append_left (by rw [List.length_map, lv]; exact hlt)]; exact q1, q2⟩
          · rw [List.getElem?_append_right (by rw [List.length_map]; omega), List.getElem?_replicate] at hi
            split at hi <;> cases hi
      have fin : ∀ {ω' : Om} {H' : Hp} {σ' : L2.St}, Rel c ω' σ' H' e' → (∀ j ∈ d.fn.io, σ'[j]? = (start d.N vs)[j]?) → Rel c ω' (vs.map some) H' (back d.fn.io d.fn.np e') := fun {ω' H' σ'} R' k' => by
        refine ⟨?_, fun j o hj => ?_, R'.tab, R'.own⟩
        · rw [List.length_map, lv, z]
          exact back_length.symm
        · obtain ⟨g1, g2, g3⟩ := back_get hj
          obtain ⟨v, q1, q2⟩ := R'.slot j o g3
          rw [k' j g1] at q1
          unfold L2.start at q1
          rw [List.getElem?_append_left (by rw [List.length_map, lv, z]; exact g2)] at q1
          exact ⟨v, q1, q2⟩
      refine ⟨ω, _, fl, e', R0, h6, fun ω' H' σ' G R' k' => ?_⟩
      cases fl with
      | nx => cases hf; exact q ω' H' .non G (fin R' k') rfl
      | rt o => cases hf; exact fun v rep => q ω' H' v G (fin R' k') rep
      | bk => cases hf
      | ct => cases hf
/-- the defs of a program: at each depth of calls -/
theorem run_ok {tab : List Fn} {n : Nat} : ∀ f xs, run tab (n + 1) f xs = match tab[f]? with
    | some fn => callF fn (run tab n) xs
    | none => none := fun f xs => rfl
theorem spOf_none {vs : List V} {H : Hp} {Q : VK} {E : XK} {f : Nat} {tab : List Fn} (h : spOf c (run tab 0 f) vs H Q E) : False := by
  obtain ⟨ω, os, fs, r, R, hf, q⟩ := h
  cases hf
/-- a def of the program as it stands behind the top -/
structure At (c : Cn) (d : DI) : Prop where
  ex : ∃ (f : Addr) (fd : FuncData) (qual : Str), FunD c.K d.nm qual d.params d.body d.scope [] [] f fd ∧ Lk c d.own d.nm f ∧ Binds c.K fd d.ps [] ∧ (0 < d.g → ∀ cc, fd.code = .ref cc → ∃ P, TabB c.base c.mg cc P ∧ P ∈ c.tabs)
theorem all_ok {ds : List DI} (hk2 : ∀ q ∈ p.kinds, ∃ f fd ps, c.mg q.1 = some (.ref f) ∧ PySem.W.keepIn c.K (.ref f) = true ∧ Binds c.K fd ps [] ∧ FnOk c.prog c.w c.K c.mg c.base CX0 2 f fd ps (spKind c q.2)) (hgc : ∀ x ∈ p.gcds, c.mg x = some (.builtin "math.gcd")) (hf : p.fns = ds.map fun d => (d.own, d.nm)) (hd : ds.all (chkD p) = true) (hb : ∀ nm ∈ p.blts, c.mg nm = none) (hg : ∀ x i, (x, i) ∈ p.gls → ∃ t, c.mg x = some (.int i t)) (hcl : ∀ q ∈ p.cls, ∀ f ∈ q.2, Cls c.K (c.cls q.1) ∧ NoAttr c.K (c.cls q.1) f) (ha : ∀ d ∈ ds, At c d) : ∀ n, Facts c p (9 * n) (run (ds.map (·.fn)) n)
  | 0 => ⟨hb, hg, fun i o x hi => by
    rw [hf, List.getElem?_map] at hi
    cases q : ds[i]? with
    | none => rw [q] at hi; cases hi
    | some d =>
      rw [q] at hi
      cases hi
      obtain ⟨f, fd, qual, F, e1, e2, _⟩ := (ha d (List.mem_of_getElem? q)).ex
      exact ⟨f, fd, d.ps, e1, F.kp, e2, ⟨fun vs H Q E h => (spOf_none h).elim, fun A outer s H args us vs Q E _ _ _ _ h => (spOf_none h).elim⟩⟩, hcl, fun q _ z => (by obtain ⟨f, os, r, h⟩ := z; cases h), hgc⟩
  | n + 1 => by
    have FC := all_ok hk2 hgc hf hd hb hg hcl ha n
    refine ⟨hb, hg, fun i o x hi => ?_, hcl, fun q hq _ => (let ⟨f, fd, ps, e1, e2, e3, e4⟩ := hk2 q hq; ⟨f, fd, ps, e1, e2, e3, e4.mono (by omega)⟩), hgc⟩
    rw [hf, List.getElem?_map] at hi
    cases q : ds[i]? with
    | none => rw [q] at hi; cases hi
    | some d =>
      rw [q] at hi
      cases hi
      have hm := List.mem_of_getElem? q
      obtain ⟨f, fd, qual, F, e1, e2, e3⟩ := (ha d hm).ex
      have hk := List.all_eq_true.mp hd d hm
      have ok := def_ok d hk F e3 FC
      have hg1 : d.g ≤ 1 := by
        unfold chkD chkR at hk
        simp only [Bool.and_eq_true, decide_eq_true_eq] at hk
        exact hk.2
      have e4 : run (ds.map (·.fn)) (n + 1) i = callF d.fn (run (ds.map (·.fn)) n) := by
        funext xs
        rw [run_ok, List.getElem?_map, q]
        rfl
      exact ⟨f, fd, d.ps, e1, F.kp, e2, by rw [e4]; exact ok.mono (by omega)⟩
end
end MP
set_option linter.all false
set_option maxRecDepth 100000
set_option maxHeartbeats 1000000
/-! The def kind_of. -/
namespace MP
open PySem PySem.Spec PyProof.Rows L2 GxR
/-- the pairs of the table as they are written -/
def kkeys (sc : Scope) : List (Str × Str) → List (Option Expr) → List Expr → Bool
  | [], [], [] => true
  | (w, cl) :: r, some (.Constant (.str w') _ _) :: ks, .Call (.Name cl' _) [] [] _ :: vs => w == w' && cl == cl' && okNm cl && lk sc cl == some .globalImplicit && kkeys sc r ks vs
  | _, _, _ => false
def kall : List (Option Expr) → Bool
  | [] => true
  | some _ :: r => kall r
  | none :: _ => false
def chkK (tbl : List (Str × Str)) (d : DI) : Bool := match d.ps, d.N, undoc d.body with
  | [y0], [y, x], [.Assign [.Name x1 px] (.Dict ks vs dp) p1, .Return (some (.Call (.Attribute (.Name x2 _) g pa) [.Name y1 _] [] pos)) _] =>
    C8.scC [y, x] [y0] d.scope && y0 == y && x1 == x && x2 == x && y1 == y && g == "get" && pa.endLine == pos.line && chkV ⟨[y, x], d.scope, d.scope, false⟩ 0 y && chkV ⟨[y, x], d.scope, d.scope, false⟩ 1 x && chkSt ⟨[y, x], d.scope, d.scope, false⟩ 1 x && kkeys d.scope tbl ks vs &&
      decide ((tbl.map (·.1)).Nodup) && ks.length == 16 && asPure (swapsWith (.Dict ks vs dp) (some (.Name x px)) p1.line (envS d.scope)) == some false
  | _, _, _ => false
section
variable {c : Cn} {X : Cx} {pos : Pos}
theorem kkeys_len {sc : Scope} : ∀ {tbl : List (Str × Str)} {ks : List (Option Expr)} {vs : List Expr}, kkeys sc tbl ks vs = true → ks.length = tbl.length ∧ vs.length = tbl.length ∧ ks.all (·.isSome) = true := by
  intro tbl
  induction tbl with
  | nil =>
    intro ks vs h
    unfold kkeys at h
    split at h
    · exact ⟨rfl, rfl, rfl⟩
    · next e => cases e
    · cases h
  | cons q r ih =>
    intro ks vs h
    unfold kkeys at h
    split at h
    · next e => cases e
    · next e =>
      cases e
      simp only [Bool.and_eq_true] at h
      obtain ⟨h1, h2, h3⟩ := ih h.2
      exact ⟨by rw [List.length_cons, List.length_cons, h1], by rw [List.length_cons, List.length_cons, h2], by rw [List.all_cons, h3]; rfl⟩
    · cases h
theorem pfs_kind : ∀ {tbl : List (Str × Str)} {ks : List (Option Expr)} {vs : List Expr}, (∀ q ∈ tbl, MkB X.K (c.cls q.2) ∧ X.mg q.2 = some (.ref (c.cls q.2))) → kkeys X.env.scope tbl ks vs = true → PFs X pos ks vs (tbl.map (trOf c)) := by
  intro tbl
  induction tbl with
  | nil =>
    intro ks vs hB h
    unfold kkeys at h
    split at h
    · exact pfs_nil
    · next e => cases e
    · cases h
  | cons q r ih =>
    intro ks vs hB h
    unfold kkeys at h
    split at h
    · next e => cases e
    · next w cl r' w' j px ks' cl' pn pc vs' e =>
      cases e
      simp only [Bool.and_eq_true, beq_iff_eq] at h
      obtain ⟨⟨⟨⟨rfl, rfl⟩, h3⟩, h4⟩, h5⟩ := h
      obtain ⟨b1, b2⟩ := hB _ List.mem_cons_self
      exact pfs_cons pe_str (pe_bare b1 h4 b2 (ok_nm h3).1) (ih (fun q hq => hB q (List.mem_cons_of_mem _ hq)) h5)
    · cases h
theorem undoc_any {t : TS} : ∀ {b : List Stmt}, PSs X (undoc b) t → PSs X b t
  | [], h => h
  | st :: r, h => by
    unfold undoc at h
    split at h
    · next heq =>
      cases heq
      exact PSs.imp (pss_cons ps_doc h) fun D σ H h => h
    · next heq => exact h
theorem kind_ok (d : DI) {tbl : List (Str × Str)} (h : chkK tbl d = true) {qual : Str} {f : Addr} {fd : FuncData} (F : FunD c.K d.nm qual d.params d.body d.scope [] [] f fd)
    (hB : ∀ q ∈ tbl, MkB c.K (c.cls q.2) ∧ c.mg q.2 = some (.ref (c.cls q.2))) : FnOk c.prog c.w c.K c.mg c.base CX0 2 f fd d.ps (spKind c tbl) := by
  unfold chkK at h
  split at h
  case h_2 => cases h
  next y0 y x x1 px ks vs dp p1 x2 p2 g pa y1 p3 pos p4 e1 e2 e3 =>
  simp only [Bool.and_eq_true, beq_iff_eq, decide_eq_true_eq] at h
  obtain ⟨⟨⟨⟨⟨⟨⟨⟨⟨⟨⟨⟨⟨h1, rfl⟩, rfl⟩, h3⟩, rfl⟩, rfl⟩, h6⟩, h7⟩, h8⟩, h9⟩, h10⟩, h11⟩, h12⟩, h13⟩ := h
  subst h3
  rw [e1]
  have S := C8.fnScope_by h1
  obtain ⟨oc, od, dV, kV, doc, pm, an, cdv, ct, osl, rfl, lk0, hcd, _, _⟩ := F.ex
  obtain ⟨n1, n2, n3⟩ := kkeys_len h10
  refine fn_of lk0 hcd S (fun vs H Q E hs => ?_) fun A outer s H vs' Q E hr hs => ?_
  · obtain ⟨w, cl, rfl, _⟩ := hs
    rfl
  · obtain ⟨w, cl, rfl, hl, q⟩ := hs
    have O : OkX c 0 0 ⟨[y1, x2], d.scope, d.scope, false⟩ (cxOf CX0 c.prog c.w c.K c.mg c.base [y1, x2] qual d.scope f cdv A outer s H E).nox := ⟨rfl, rfl, rfl, rfl, rfl, rfl, S.nd, rfl, rfl, hr, fun _ _ => rfl, Nat.zero_le _, (fun z => nomatch z), fun z => absurd z (Nat.lt_irrefl _)⟩
    obtain ⟨v1, v2, v3, v4⟩ := chkV_ok h7 O
    obtain ⟨w1, w2, w3, w4⟩ := chkV_ok h8 O
    obtain ⟨s1, s2, s3⟩ := chkSt_ok h9 O
    have hu := O.units
    have sw := (swapsWith_env (env := (cxOf CX0 c.prog c.w c.K c.mg c.base [y1, x2] qual d.scope f cdv A outer s H E).nox.env) (sc := d.scope) rfl (.Dict ks vs dp) (some (.Name x2 px)) p1.line).trans (asPure_some h13)
    have hd := pe_dispB (X := (cxOf CX0 c.prog c.w c.K c.mg c.base [y1, x2] qual d.scope f cdv A outer s H E).nox) (pos := dp) (pfs_kind hB h10) n3 (by omega) (fun z => by rw [z] at h12; cases h12) (by omega) (by omega) (by rw [List.length_map]; omega)
    have hp := pss_cons (ps_set (pos := p1) S.nd s1 s2 hd sw s3) (pss_cons (ps_ret (pos := p4) (pe_dget1 (apos := pa) (cpos := pos) (by omega) (pe_var (pos := p2) w1 w2 w3 w4) (pe_var (pos := p3) v1 v2 v3 v4) ⟨rfl, rfl, beq_iff_eq.mpr h6, rfl⟩)) pss_nil)
    refine ⟨_, PSs.nox (undoc_any (by rw [e3]; exact hp)), ?_⟩
    refine disp_kind h11 fun p ks' H' h0 m e ext => ?_
    obtain ⟨o, dx, k1, k2, k3, k4⟩ := m.look hl
    refine ⟨.ref p, rfl, p, rfl, .inl ⟨ks', .inl e⟩, .str w, rfl, _, DGet.k (k := .inr w) e, ?_⟩
    rw [k1]
    exact q H' o dx ext k2 k3 k4
end
end MP
set_option linter.all false
set_option maxRecDepth 100000
set_option maxHeartbeats 4000000
/-! The law's def is called from the row's caller. -/
namespace MP
open PySem PySem.Spec PyProof.Rows L2 GxR

/-- one call of a def, its surroundings known -/
theorem fn_at {CX : CXT} {P : Program} {w : World} {K : PySem.W.Frag} {mg : Str → Option Value} {base : Heap} {k : Nat} {f : Addr} {name qual : Str} {params : Arguments} {body : List Stmt} {scope : Scope} {dV kV doc pm cdv ct oc : Value} {an od : Option Addr}
    {osl : Array (Option Value)} {N ps : List Str} {A : Around} {outer : List Env} {s : Shared} {H : Hp} {args : Args} {us : List Value} {vs : List V} {Q : VK} {E : XK} (lk : K.lookup f = some ⟨oc, od, .func (PySem.W.fnOf name qual params body scope dV kV doc pm an cdv ct), osl⟩)
    (hcd : PySem.W.codeIn K cdv qual = true) (S : FnScope N ps scope) (hl : vs.length = ps.length) (hr : Room k A) (e0 : Env0 P w K mg base A outer s H) (hb : BindsTo s (PySem.W.fnOf name qual params body scope dV kV doc pm an cdv ct) args (ps.zip us)) (r : Vals vs us)
    (hbody : ∃ t, PSs (cxOf CX P w K mg base N qual scope f cdv A outer s H E) body t ∧ t { nx := fun _ H' => Q .non H', rt := Q } (L2.start N vs) H) : codeAny (model P w) A (.call (.ref f) args) (CR CX outer P w H s Q E) s := by
  obtain ⟨t, ht, hq⟩ := hbody
  have KX : K.In s.heap := e0.mod.kin.keeps fun b o e => (e0.bs b o e).1
  have lim : s.heap.NoLimit := e0.mod.nolimit.keeps fun b o e => (e0.bs b o e).1
  refine codeAny_call_function hr.depth (KX _ _ lk) rfl S.co S.gen rfl (PySem.W.codeRec_of KX hcd) (hb _ _ _ _ ?_)
  refine wpAny_newFunctionEnv_cells S.kind (fun y hy => ?_) fun env he s1 x => ?_
  · rcases S.par y.1 (List.of_mem_zip (show (y.1, y.2) ∈ ps.zip us from hy)).1 with q | q
    · exact .inl q
    · exact .inr ⟨q, PySem.W.cellsFrom_some _ _ _ (.inl q)⟩
  subst he
  refine ⟨lim.keeps x.toInCall.keep, codeAny_func ?_⟩
  have I : Inv (cxOf CX P w K mg base N qual scope f cdv A outer s H E) [] (L2.start N vs) H s1 := inv_start S hr.hd e0 hl r x
  refine wpAny_mono (ht.run [] s1 _ H _ I hq) (fun fl s' hs => ?_) fun e s' hs => hs
  cases fl with
  | ret u =>
    obtain ⟨v, σ', H', J, rv, q⟩ := hs
    exact ⟨v, H', J.os, J.bare, J.base, J.hok, rv, q⟩
  | next =>
    obtain ⟨σ', H', J, q⟩ := hs
    exact ⟨.non, H', J.os, J.bare, J.base, J.hok, rfl, q⟩
  | brk =>
    obtain ⟨_, _, _, q⟩ := hs
    exact q.elim
  | cont =>
    obtain ⟨_, _, _, q⟩ := hs
    exact q.elim
section
variable {c : Cn} {p : Pg} {k : Nat} {C : CallF}
/-- the law's def, where repr may be called -/
theorem law_at (d : DI) (h : chkR p true d = true) {qual : Str} {f : Addr} {fd : FuncData} (F : FunD c.K d.nm qual d.params d.body d.scope [] [] f fd)
    (hc : 0 < d.g → ∀ cc, fd.code = .ref cc → ∃ P, TabB c.base c.mg cc P ∧ P ∈ c.tabs) (FC : Facts c p k C) {A : Around} {outer : List Env} {s : Shared} {H : Hp} {args : Args} {us : List Value} {vs : List V} {Q : VK} (hr : Room (k + 7 * d.g + 2) A)
    (e0 : Env0 c.prog c.w c.K c.mg c.base A outer s H) (hb : BindsTo s fd args (d.ps.zip us)) (r : Vals vs us) (hg : ∀ env, (A.deeper env).guards = some []) (hs : spOf c (callF d.fn C) vs H Q E0) : codeAny (model c.prog c.w) A (.call (.ref f) args) (CR CX0 outer c.prog c.w H s Q E0) s := by
  unfold chkR at h
  simp only [Bool.and_eq_true, beq_iff_eq, decide_eq_true_eq] at h
  obtain ⟨⟨⟨⟨h1, h2⟩, h3⟩, h4⟩, h5⟩ := h
  have S := C8.fnScope_by h1
  obtain ⟨oc, od, dV, kV, doc, pm, an, cdv, ct, osl, rfl, lk0, hcd, _, _⟩ := F.ex
  have cN : 0 < d.g → ∃ cc P, cdv = .ref cc ∧ TabB c.base c.mg cc P ∧ P ∈ c.tabs := fun hg => by
    obtain ⟨cc, hcc⟩ := He.codeIn_ref hcd
    obtain ⟨P, q1, q2⟩ := hc hg cc hcc
    exact ⟨cc, P, hcc, q1, q2⟩
  obtain ⟨ω, os, fs, r', R, hf, q⟩ := hs
  unfold callF at hf
  split at hf
  case isFalse => cases hf
  next z =>
  obtain ⟨⟨fl, e'⟩, h6, hf⟩ := Option.bind_eq_some_iff.mp hf
  have lv : vs.length = os.length := by
    have := R.len
    rwa [List.length_map, List.length_map] at this
  have hps : d.ps.length ≤ d.N.length := by
    have := congrArg List.length S.pre
    rw [List.length_take] at this
    omega
  have R0 : Rel c ω (L2.start d.N vs) H (os.map some ++ List.replicate (d.fn.nn - d.fn.np) none) := by
    refine ⟨?_, fun i o hi => ?_, R.tab, R.own⟩
    · unfold L2.start
      simp only [List.length_append, List.length_map, List.length_replicate]
      omega
    · by_cases hlt : i < os.length
      · rw [List.getElem?_append_left (by rw [List.length_map]; exact hlt)] at hi
        obtain ⟨v, q1, q2⟩ := R.slot i o hi
        exact ⟨v, by unfold L2.start; rw [List.getElem?_append_left (by rw [List.length_map, lv]; exact hlt)]; exact q1, q2⟩
      · rw [List.getElem?_append_right (by rw [List.length_map]; omega), List.getElem?_replicate] at hi
        split at hi <;> cases hi
  refine fn_at lk0 hcd S (by rw [lv, z, h3]) hr e0 hb r ⟨TSm c d.fn.io (evSs C d.fn.body), PSs.nox (undoc_ok (snd_ss FC d.fn.body (g := d.g) (s := ⟨d.N, d.scope, d.scope, true⟩) ?_ rfl _ h2)), ω, _, fl, e', R0, h6, fun ω' H' σ' G R' k' => ?_⟩
  · exact ⟨rfl, rfl, rfl, rfl, rfl, rfl, S.nd, rfl, rfl, hr.deeper _, fun _ _ => rfl, h5, fun _ => hg _, cN⟩
  · have fin : Rel c ω' (vs.map some) H' (back d.fn.io d.fn.np e') := by
      refine ⟨?_, fun j o hj => ?_, R'.tab, R'.own⟩
      · rw [List.length_map, lv, z]
        exact back_length.symm
      · obtain ⟨g1, g2, g3⟩ := back_get hj
        obtain ⟨v, q1, q2⟩ := R'.slot j o g3
        rw [k' j g1] at q1
        unfold L2.start at q1
        rw [List.getElem?_append_left (by rw [List.length_map, lv, z]; exact g2)] at q1
        exact ⟨v, q1, q2⟩
    cases fl with
    | nx => cases hf; exact q ω' H' .non G fin rfl
    | rt o => cases hf; exact fun v rep => q ω' H' v G fin rep
    | bk => cases hf
    | ct => cases hf
/-- the script, as the law gets it -/
theorem sp_law {d : DI} {a : Addr} {ns : List Int} {H : Hp} {fs : List (Option O)} (hT : ∀ P ∈ c.tabs, H P = some (.tbl #[])) (hS : SqL c.K H a (ns.map V.int)) (hrun : callF d.fn C [dat (.list (ns.map PyData.int))] = some (fs, dat (.bool true))) :
    spOf c (callF d.fn C) [.ref a] H (fun v _ => v = .bl true) E0 := by
  have hints : ∀ ns : List Int, FzL c.K (fr H fun _ => none) (ns.map PyData.int) (ns.map V.int) := fun ns => by
    induction ns with
    | nil => rfl
    | cons n ns ih => exact ⟨_, _, rfl, rfl, ih⟩
  have hfr : fr H (fun _ => none) = H := by funext b; rfl
  refine ⟨fun _ => none, _, fs, _, ⟨rfl, fun i o h => ?_, fun P hP => ⟨⟨#[], hT P hP, trivial⟩, rfl⟩, fun a l h => nomatch h⟩, hrun, fun ω' H' v G R rep => rep⟩
  cases i with
  | zero =>
    cases h
    exact ⟨.ref a, rfl, a, _, rfl, by rw [hfr]; exact hS, hints ns⟩
  | succ i => cases h
end

/-! ### the heap at the call: the script and the tables are told, all else is the base -/
section
variable {P : Program} {w : World} {K : PySem.W.Frag} {mg mb : Str → Option Value} {fa a : Addr} {cs : List (Addr × Addr)} {s₁ : Shared} {vs : List Value} {ns : List Int}
/-- what is told at the start -/
def told (K : PySem.W.Frag) (cs : List (Addr × Addr)) (a : Addr) (vs : List Value) (ns : List Int) : Hp := fun b =>
  if b ∈ cs.map (·.2) then some (.tbl #[]) else if b = a ∧ K.lookup a = none then some (.frz { cls := .type "list", data := .seq vs.toArray } (.lst (ns.map V.int))) else none
theorem law_callR (KX : K.In s₁.heap) (hns : s₁.heap.Ns mainGlobals mg) (hb : s₁.heap.Ns builtinsNs mb) (hbb : ∀ x : Str, x ≠ "__name__" → mb x = bootBuiltins x) (hlim : s₁.heap.NoLimit) (hg : s₁.gens = #[])
    (hT : ∀ p ∈ cs, s₁.heap.get? p.2 = some { cls := .none, data := .fields #[] }) (nT : ∀ p ∈ cs, K.lookup p.2 = none) (C : ∀ p ∈ cs, PySem.W.CodeHd s₁.heap p.1 p.2)
    (hbm : ∃ (bm : Addr) (ob : Obj), mg "__builtins__" = some (.ref bm) ∧ bm ≠ builtinsNs ∧ s₁.heap.get? bm = some ob ∧ ob.cls = .type "module" ∧ ob.dict = some builtinsNs ∧ ob.data = .plain)
    (ha : s₁.heap.get? a = some { cls := .type "list", data := .seq vs.toArray }) (hi : IntsAre vs ns) (hl : ns.length ≤ sizeLine)
    (F : ∀ (base : Heap) (H : Hp), Env0 P w K mg base callerA [] s₁ H → (∀ p ∈ cs, TabB base mg p.1 p.2) → (∀ p ∈ cs, H p.2 = some (.tbl #[])) → SqL K H a (ns.map V.int) →
      codeAny (model P w) callerA (.call (.ref fa) ⟨[.ref a], []⟩) (CR CX0 [] P w H s₁ (fun v _ => v = .bl true) E0) s₁) :
    codeAny (model P w) callerA (.call (.ref fa) ⟨[.ref a], []⟩) (fun r s' => r = .ok (.ret (.bool true)) ∧ OldK s₁.heap s'.heap ∧ s'.os = s₁.os ∧ AllBare s'.gens) s₁ := by
  have rv := vals_ints hi
  have memT : ∀ p ∈ cs, p.2 ∈ cs.map (·.2) := fun p hp => List.mem_map.mpr ⟨p, hp, rfl⟩
  have isT : ∀ b ∈ cs.map (·.2), s₁.heap.get? b = some { cls := .none, data := .fields #[] } ∧ K.lookup b = none := fun b hb => by
    obtain ⟨p, hp, rfl⟩ := List.mem_map.mp hb
    exact ⟨hT p hp, nT p hp⟩
  have aT : a ∉ cs.map (·.2) := fun z => by
    have q := (isT a z).1
    rw [ha] at q
    cases q
  generalize hH0 : told K cs a vs ns = H
  have hHT : ∀ b ∈ cs.map (·.2), H b = some (.tbl #[]) := fun b hb => by rw [← hH0]; exact if_pos hb
  have cases3 : ∀ b, (b ∈ cs.map (·.2) ∧ H b = some (.tbl #[])) ∨ (b = a ∧ K.lookup a = none ∧ H b = some (.frz { cls := .type "list", data := .seq vs.toArray } (.lst (ns.map V.int)))) ∨ (b ∉ cs.map (·.2) ∧ H b = none) := fun b => by
    by_cases h1 : b ∈ cs.map (·.2)
    · exact .inl ⟨h1, hHT b h1⟩
    · by_cases h2 : b = a ∧ K.lookup a = none
      · refine .inr (.inl ⟨h2.1, h2.2, ?_⟩)
        rw [← hH0]
        exact (if_neg h1).trans (if_pos h2)
      · refine .inr (.inr ⟨h1, ?_⟩)
        rw [← hH0]
        exact (if_neg h1).trans (if_neg h2)
  have hok : HOk P w H s₁.heap := fun b u e => by
    rcases cases3 b with ⟨h1, h2⟩ | ⟨h1, _, h2⟩ | ⟨_, h2⟩
    · rw [h2] at e
      cases e
      exact (isT b h1).1
    · rw [h2] at e
      cases e
      rw [h1]
      exact ⟨ha, by rw [List.length_map]; exact hl, vs, _, rv, ha⟩
    · rw [h2] at e
      cases e
  have hS : SqL K H a (ns.map V.int) := by
    rcases cases3 a with ⟨h1, _⟩ | ⟨_, _, h2⟩ | ⟨_, h2⟩
    · exact absurd h1 aT
    · exact .inl (.inr ⟨_, h2⟩)
    · cases hk : K.lookup a with
      | none =>
        rw [← hH0] at h2
        exact absurd ((if_neg aT).symm.trans h2) (by rw [if_pos ⟨rfl, hk⟩]; exact fun z => nomatch z)
      | some o =>
        have e := KX a o hk
        rw [ha] at e
        cases e
        exact .inr ⟨_, vs.toArray, _, hk, rfl, rfl, rfl, by rw [List.size_toArray, hi.length]; exact hl, by simpa using rv⟩
  -- what is neither a list nor an empty table is not told
  have noD : ∀ {b : Addr} {o : Obj}, s₁.heap.get? b = some o → (∀ vs n, o.data ≠ .seq vs n) → o.data ≠ .fields #[] → H b = none := fun {b o} e h1 h2 => by
    rcases cases3 b with ⟨h3, _⟩ | ⟨h3, _, _⟩ | ⟨_, h3⟩
    · rw [(isT b h3).1] at e
      cases e
      exact absurd rfl h2
    · rw [h3, ha] at e
      cases e
      exact absurd rfl (h1 _ _)
    · exact h3
  have base_of : ∀ {b : Addr} {o : Obj}, s₁.heap.get? b = some o → H b = none → (hidT s₁.heap H).get? b = some o := fun e n => hidT_get e n
  have nsK : ∀ {b : Addr} {m : Str → Option Value}, s₁.heap.Ns b m → (hidT s₁.heap H).Ns b m := fun {b m} ⟨o, es, ep, e, d, r⟩ =>
    ⟨o, es, ep, base_of e (noD e (fun vs n z => by rw [d] at z; cases z) fun z => by rw [d] at z; cases z), d, r⟩
  have hKb : K.In (hidT s₁.heap H) := fun b o e => base_of (KX b o e) (by
    rcases cases3 b with ⟨h3, _⟩ | ⟨h3, h4, _⟩ | ⟨_, h3⟩
    · rw [(isT b h3).2] at e
      cases e
    · rw [h3, h4] at e
      cases e
    · exact h3)
  have hM : L2.Mod K mg (hidT s₁.heap H) := ⟨hKb, nsK hns, ⟨mb, nsK hb, hbb⟩, let ⟨mc, h1, h2⟩ := hlim; ⟨mc, nsK h1, h2⟩⟩
  have TB : ∀ p ∈ cs, TabB (hidT s₁.heap H) mg p.1 p.2 := fun p hp => by
    have hTp := hT p hp
    refine ⟨?_, ?_, fun z => ?_⟩
    · obtain ⟨o, us, file, tf, flags, tg, inF, text, tt, e1, r1, r2, r3, r4, r5, r6, r7, r8, hne⟩ := C p hp
      refine ⟨o, us, file, tf, flags, tg, inF, text, tt, base_of e1 (noD e1 (fun vs n z => ?_) fun z => ?_), r1, r2, r3, r4, r5, r6, r7, r8, hne⟩
      · rw [r2] at z
        cases z
      · rw [r2] at z
        cases z
        simp at r3
    · obtain ⟨bm, ob, b1, b2, b3, b4, b5, b6⟩ := hbm
      refine ⟨bm, ob, b1, b2, fun q => ?_, fun q => ?_, base_of b3 (noD b3 (fun vs n z => ?_) fun z => ?_), b4, b5, b6⟩
      · obtain ⟨o, es, ep, e, hd, _⟩ := hns
        rw [q, e] at b3
        cases b3
        rw [hd] at b6
        cases b6
      · rw [q, hTp] at b3
        cases b3
        cases b6
      · rw [b6] at z
        cases z
      · rw [b6] at z
        cases z
    · obtain ⟨o, es, ep, e, hd, _⟩ := hns
      rw [z, hTp] at e
      cases e
      cases hd
  have e0 : Env0 P w K mg (hidT s₁.heap H) callerA [] s₁ H := ⟨rfl, hM, fun b o e => of_hidT e, Nat.le_of_eq (hidT_size _ _), trivial, fun b hb => absurd (show b ∈ ([] : List Addr) from hb) (by simp), hok, .of_eq hg⟩
  refine codeAny_mono (F _ H e0 TB (fun p hp => hHT _ (memT p hp)) hS) fun r s' h => ?_
  cases r with
  | error e => exact h.elim
  | ok fl =>
    cases fl with
    | next => exact False.elim h
    | brk => exact False.elim h
    | cont => exact False.elim h
    | ret u =>
      obtain ⟨v, H', os, bare, un, hok', r', q⟩ := h
      cases q
      cases r'
      have grown : ∀ b ∈ cs.map (·.2), ∃ more : Array Value, s'.heap.get? b = some { cls := .none, data := .fields more } := fun b hb => by
        obtain ⟨more, z⟩ := un.tbls b #[] (hHT b hb)
        exact ⟨_, hok' b _ z⟩
      have key : ∀ b o, b ∉ cs.map (·.2) → s₁.heap.get? b = some o → s'.heap.get? b = some o := fun b o nb e => by
        rcases cases3 b with ⟨h3, _⟩ | ⟨_, _, h3⟩ | ⟨_, h3⟩
        · exact absurd h3 nb
        · obtain ⟨e1, _⟩ := hok b _ h3
          obtain ⟨e2, _⟩ := hok' b _ (un.frzs b _ _ h3)
          rw [e] at e1
          cases e1
          exact e2
        · exact un.keep b o e h3 (fun z => absurd (show b ∈ ([] : List Addr) from z) (by simp)) (by simp)
      refine ⟨rfl, ⟨fun b o e => ?_, fun b o e => ?_⟩, os, bare⟩
      · by_cases hb : b ∈ cs.map (·.2)
        · obtain ⟨more, hm⟩ := grown b hb
          obtain ⟨p, hp, rfl⟩ := List.mem_map.mp hb
          rw [hT p hp] at e
          cases e
          exact .inr (.inl ⟨((C p hp).tab (hT p hp)).isCodeTable, rfl, #[], more, rfl, by rw [Array.empty_append]; exact hm⟩)
        · exact .inl (key b o hb e)
      · by_cases hb : b ∈ cs.map (·.2)
        · obtain ⟨more, hm⟩ := grown b hb
          exact ⟨_, hm⟩
        · exact ⟨o, key b o hb e⟩
end
/-- what is known of the law's def at the head's heap h -/
def LawR (P : Program) (w : World) (K : PySem.W.Frag) (n : Nat) (mg : Str → Option Value) (fa : Addr) (h : Heap) : Prop :=
  ∃ cs : List (Addr × Addr), (∀ p ∈ cs, h.get? p.2 = some { cls := .none, data := .fields #[] }) ∧ (∀ p ∈ cs, K.lookup p.2 = none) ∧ (∀ p ∈ cs, PySem.W.CodeHd h p.1 p.2) ∧
    ∀ (base : Heap) (H : Hp) (s : Shared) (a : Addr) (ns : List Int), ns.length ≤ n → (∀ z ∈ ns, Builtin.Int.intBits z ≤ 1048576) → Env0 P w K mg base callerA [] s H → (∀ p ∈ cs, TabB base mg p.1 p.2) → (∀ p ∈ cs, H p.2 = some (.tbl #[])) → SqL K H a (ns.map V.int) →
      codeAny (model P w) callerA (.call (.ref fa) ⟨[.ref a], []⟩) (CR CX0 [] P w H s (fun v _ => v = .bl true) E0) s
theorem walk_law {l : PySem.W.OpenLaw} {n : Nat} {q : Program} {loose : List Str} {XP : (Str → Option Value) → Heap → Prop} {YP : World → Heap → Prop} {d : DefRec} (hn : l.most = some n) (hn2 : n ≤ sizeLine) (hdf : d.params.defaults = [])
    (F : ∀ (w : World) (mg : Str → Option Value) (fa : Addr) (h : Heap), YP w h → h.Ns mainGlobals mg → mg d.name = some (.ref fa) → ∃ K : PySem.W.Frag, K.In h ∧ LawR l.prog w K n mg fa h) :
    PySem.W.WalkO q loose XP YP l.row.toRowW d [] (fun f vs => PySem.call f vs) := by
  refine Att.attach_callB hn hdf fun w s₀ s₁ mg mb fa o pm cd doc a vs ns G Y ho hd hcd hmg hobj hints hlen hbits hg => ?_
  obtain ⟨K, KX, cs, hT, nT, C, hF⟩ := F w mg fa _ Y G.T.g hmg
  exact law_callR KX G.T.g G.T.b G.T.builtins G.T.nolimit hg hT nT C G.T.bmain hobj hints (Nat.le_trans hlen hn2) fun base H e0 TB hHT hS => hF base H s₁ a ns hlen hbits e0 TB hHT hS
end MP
set_option linter.all false
set_option maxRecDepth 100000
set_option maxHeartbeats 4000000
/-! From the head's facts to the law. -/
namespace MP
open PySem PySem.Spec PyProof.Rows L2 GxR

section
variable {p : Pg} {ds : List DI} {dl : DI} {n N : Nat} {P : Program} {w : World} {K : PySem.W.Frag} {h : Heap} {mg : Str → Option Value} {ex : PySem.W.Frag → Bool} {fa : Addr}
theorem at_of {cn : Cn} (all : List DI) (eK : cn.K = K) (eM : cn.mg = mg) (eC : ∀ x, cn.cls x = He.ga K x) (X : K.In h) (G : h.Ns mainGlobals mg) (c : He.SaysX (faOf p all) (all.map dd) [] (tfOf all) ex w h K) {base : Heap} (TB : ∀ q ∈ (tfOf all).map (He.cT K), TabB base mg q.1 q.2) {d : DI} (hd : d ∈ all) :
    ∃ (f : Addr) (fd : FuncData), FunD K d.nm (qualOf d) d.params d.body d.scope [] [] f fd ∧ Lk cn d.own d.nm f ∧ (0 < d.g → ∀ cc, fd.code = .ref cc → ∃ P', TabB base mg cc P' ∧ P' ∈ ((tfOf all).map (He.cT K)).map (·.2)) := by
  obtain ⟨fd, F⟩ := c.t.d.defs (d := dd d) (List.mem_map.mpr ⟨d, hd, rfl⟩)
  have F : FunD K d.nm (qualOf d) d.params d.body d.scope [] [] (He.fAd K (atOf d)) fd := F
  have fact : ∀ f ∈ faD d, f.ok K = true := fun f hf => c.t.d.facts (f := f) (by
    unfold faOf
    exact List.mem_append_left _ (List.mem_append_left _ (List.mem_append_left _ (List.mem_append_left _ (List.mem_flatMap.mpr ⟨d, hd, hf⟩)))))
  refine ⟨_, fd, F, ?_, fun hg cc hcc => ?_⟩
  · cases ho : d.own with
    | none =>
      have e1 : atOf d = (d.nm, none) := by unfold atOf; rw [ho]
      have e2 : faD d = [.glo d.nm] := by unfold faD; rw [ho]
      rw [e1]
      show cn.mg d.nm = _
      rw [eM]
      exact He.glo_ok X G (fact _ (by rw [e2]; exact List.mem_singleton.mpr rfl))
    | some cl =>
      have e1 : atOf d = (cl, some d.nm) := by unfold atOf; rw [ho]
      have e2 : faD d = [.cls cl, .meth cl d.nm, .glo cl] ++ if d.nm == Str.ofString "__init__" then [.mkr cl] else [] := by unfold faD; rw [ho]
      rw [e2] at fact
      rw [e1]
      refine ⟨?_, ?_, fun z => ⟨?_, ?_⟩⟩
      · rw [eK, eC]
        exact He.cls_ok (fact _ (by simp))
      · rw [eK, eC]
        exact He.meth_ok (fact (.meth cl d.nm) (by simp))
      · rw [eK, eC]
        have := He.mkr_ok (fact (.mkr cl) (by rw [z]; simp))
        rw [z]
        exact this
      · rw [eM, eC]
        exact He.glo_ok X G (fact (.glo cl) (by simp))
  · have hm : atOf d ∈ tfOf all := List.mem_map.mpr ⟨d, List.mem_filter.mpr ⟨hd, decide_eq_true hg⟩, rfl⟩
    obtain ⟨oc, od, dV, kV, doc, pm, an, cdv, ct, osl, e, lk0, _⟩ := F.ex
    have e1 : He.codeOf K (atOf d) = cc := He.codeOf_eq lk0 hcc
    have hq : He.cT K (atOf d) ∈ (tfOf all).map (He.cT K) := List.mem_map.mpr ⟨_, hm, rfl⟩
    have t := TB _ hq
    refine ⟨(He.cT K (atOf d)).2, ?_, List.mem_map.mpr ⟨_, hq, rfl⟩⟩
    have e2 : (He.cT K (atOf d)).1 = cc := e1
    rw [e2] at t
    exact t
theorem law_r {kd : List (DI × List (Str × Str))} (X : K.In h) (G : h.Ns mainGlobals mg) (c : He.SaysX (faOf p (allD ds kd dl)) ((allD ds kd dl).map dd) [] (tfOf (allD ds kd dl)) (exB p) w h K) (hf : p.fns = ds.map fun d => (d.own, d.nm)) (hkd : p.kinds = kd.map fun q => (q.1.nm, q.2)) (hkc : kd.all (fun q => chkK q.2 q.1 && q.1.own.isNone) = true) (hkb : ∀ q ∈ kd, BindOk q.1)
    (hown : dl.own = none) (hd : ds.all (chkD p) = true) (hl : chkR p true dl = true) (hb : ∀ d ∈ ds, BindOk d) (hbl : BindOk dl)
    (hps : dl.ps.length = 1) (hr : Room (9 * N + 7 * dl.g + 2) callerA) (hmg : mg dl.nm = some (.ref fa))
    (hpure : ∀ ns : List Int, ns.length ≤ n → (∀ z ∈ ns, Builtin.Int.intBits z ≤ 1048576) → ∃ fs, callF dl.fn (run (ds.map (·.fn)) N) [dat (.list (ns.map PyData.int))] = some (fs, dat (.bool true))) : LawR P w K n mg fa h := by
  refine ⟨(tfOf (allD ds kd dl)).map (He.cT K), fun q hq => ?_, fun q hq => ?_, fun q hq => ?_, fun base H s a ns hn hbits e0 TB hT hS => ?_⟩
  · obtain ⟨t, ht, rfl⟩ := List.mem_map.mp hq
    exact c.empty t ht
  · obtain ⟨t, ht, rfl⟩ := List.mem_map.mp hq
    exact c.out t ht
  · obtain ⟨t, ht, rfl⟩ := List.mem_map.mp hq
    exact PySem.W.codeHd_of_K X (c.hd t ht)
  · let cn : Cn := ⟨P, w, K, mg, base, ((tfOf (allD ds kd dl)).map (He.cT K)).map (·.2), He.ga K⟩
    have ats : ∀ d ∈ ds, At cn d := fun d hd' => by
      obtain ⟨f, fd, F, e1, e2⟩ := at_of (cn := cn) (allD ds kd dl) rfl rfl (fun _ => rfl) X G c TB (List.mem_append_right _ (List.mem_append_left _ hd'))
      exact ⟨f, fd, qualOf d, F, e1, F.bindsN (hb d hd'), e2⟩
    have fact : ∀ f ∈ faOf p (allD ds kd dl), f.ok K = true := fun f hf => c.t.d.facts (f := f) hf
    have more := c.more
    unfold exB at more
    rw [Bool.and_eq_true, List.all_eq_true, List.all_eq_true] at more
    have kinds : ∀ q ∈ p.kinds, ∃ f fd ps, cn.mg q.1 = some (.ref f) ∧ PySem.W.keepIn cn.K (.ref f) = true ∧ Binds cn.K fd ps [] ∧ FnOk cn.prog cn.w cn.K cn.mg cn.base CX0 2 f fd ps (spKind cn q.2) := fun q hq => by
      have hq0 := hq
      rw [hkd] at hq
      obtain ⟨d, hd', rfl⟩ := List.mem_map.mp hq
      obtain ⟨f, fd, F, e1, _⟩ := at_of (cn := cn) (allD ds kd dl) rfl rfl (fun _ => rfl) X G c TB (List.mem_append_left _ (List.mem_map.mpr ⟨d, hd', rfl⟩))
      have hc := List.all_eq_true.mp hkc d hd'
      rw [Bool.and_eq_true, Option.isNone_iff_eq_none] at hc
      rw [hc.2] at e1
      refine ⟨f, fd, _, e1, F.kp, F.bindsN (hkb d hd'), kind_ok (c := cn) d.1 hc.1 F fun r hr' => ?_⟩
      have m := List.all_eq_true.mp (more.1 _ hq0) r hr'
      simp only [Bool.and_eq_true] at m
      exact ⟨⟨m.1.1, He.eqO_ok m.1.2, m.2⟩, He.glo_ok X G (fact (.glo r.2) (by
        unfold faOf
        exact List.mem_append_right _ (List.mem_flatMap.mpr ⟨_, hq0, List.mem_map.mpr ⟨r, hr', rfl⟩⟩)))⟩
    have FC : Facts cn p (9 * N) (run (ds.map (·.fn)) N) := all_ok kinds (fun x hx => PySem.W.mg_of X G (He.eqO_ok (more.2 x hx))) hf hd (fun nm hnm => He.free_ok X G (fact (.free nm) (by
        unfold faOf
        exact List.mem_append_left _ (List.mem_append_left _ (List.mem_append_left _ (List.mem_append_right _ (List.mem_map.mpr ⟨nm, hnm, rfl⟩))))))) (fun x i hx => He.int_ok X G (fact (.int x i) (by
        unfold faOf
        exact List.mem_append_left _ (List.mem_append_left _ (List.mem_append_right _ (List.mem_map.mpr ⟨(x, i), hx, rfl⟩)))))) (fun q hq f hf => ⟨He.cls_ok (fact (.cls q.1) (by
        unfold faOf
        exact List.mem_append_left _ (List.mem_append_right _ (List.mem_flatMap.mpr ⟨q, hq, List.mem_cons_self⟩)))), He.noat_ok (fact (.noat q.1 f) (by
        unfold faOf
        exact List.mem_append_left _ (List.mem_append_right _ (List.mem_flatMap.mpr ⟨q, hq, List.mem_cons_of_mem _ (List.mem_map.mpr ⟨f, hf, rfl⟩)⟩))))⟩) ats N
    obtain ⟨f, fd, F, e1, e2⟩ := at_of (cn := cn) (d := dl) (allD ds kd dl) rfl rfl (fun _ => rfl) X G c TB (List.mem_append_right _ (List.mem_append_right _ (by simp)))
    rw [hown] at e1
    have e1 : mg dl.nm = some (.ref f) := e1
    have ef : fa = f := by
      rw [hmg] at e1
      injection e1 with e1
      injection e1
    subst ef
    obtain ⟨fs, hrun⟩ := hpure ns hn hbits
    refine law_at (c := cn) dl hl F e2 FC hr e0 (FunD.bindsA F hbl s [.ref a] (by rw [hps]; rfl)) (Paired.cons (show RelV (V.ref a) (Value.ref a) from rfl) .nil) (fun env => rfl) (sp_law (c := cn) (fun P' hP' => ?_) hS hrun)
    obtain ⟨q, hq, rfl⟩ := List.mem_map.mp hP'
    exact hT q hq
end
end MP
set_option linter.all false
set_option maxRecDepth 100000
set_option maxHeartbeats 1000000
/-! The evaluator's equations, for simp. -/
namespace MP
open PySem
section
variable {C : CallF} {e : Env'}
@[simp] theorem ev_cst {d} : ev C (.cst d) e = some (dat d, e) := by rw [ev] <;> first | rfl | (intro i z; cases z) | (intro z; cases z)
@[simp] theorem ev_glo {x d} : ev C (.glo x d) e = some (dat d, e) := by rw [ev] <;> first | rfl | (intro i z; cases z) | (intro z; cases z)
@[simp] theorem ev_var {i} : ev C (.var i) e = (getB e i).map fun d => (dat d, stillM (.bor i) e) := by rw [ev] <;> first | rfl | (intro i z; cases z) | (intro z; cases z)
@[simp] theorem ev_mov {i} : ev C (.mov i) e = match e[i]? with
    | some (some o) => some (o, e.set i none)
    | _ => none := by rw [ev] <;> first | rfl | (intro i z; cases z) | (intro z; cases z)
@[simp] theorem ev_bin {o a b} : ev C (.bin o a b) e = (evb C a e).bind fun p => (evb C b p.2).bind fun q => (now a p.1 q.2).bind fun x => (binD o x q.1).map fun r => (r, q.2) := by rw [ev] <;> first | rfl | (intro i z; cases z) | (intro z; cases z)
@[simp] theorem ev_neg {a} : ev C (.neg a) e = (lift (ev C a e)).bind fun p => match p.1 with
    | .int i => some (dat (.int (-i)), p.2)
    | _ => none := by rw [ev] <;> first | rfl | (intro i z; cases z) | (intro z; cases z)
@[simp] theorem ev_cmp {o a b} : ev C (.cmp o a b) e = (evb C a e).bind fun p => (evb C b p.2).bind fun q => (now a p.1 q.2).bind fun x => (cmpD o x q.1).map fun r => (dat (.bool r), q.2) := by rw [ev] <;> first | rfl | (intro i z; cases z) | (intro z; cases z)
@[simp] theorem ev_cmp2 {o o' a b c} : ev C (.cmp2 o o' a b c) e = (lift (ev C a e)).bind fun p => (lift (ev C b p.2)).bind fun q => (cmpD o p.1 q.1).bind fun r =>
    if r = true then (lift (ev C c q.2)).bind fun z => (cmpD o' q.1 z.1).map fun r' => (dat (.bool r'), z.2) else some (dat (.bool false), q.2) := by rw [ev] <;> first | rfl | (intro i z; cases z) | (intro z; cases z)
@[simp] theorem ev_isN {n a} : ev C (.isN n a) e = (evb C a e).bind fun p => match p.1 with
    | .none => some (dat (.bool (!n)), p.2)
    | _ => some (dat (.bool n), p.2) := by rw [ev] <;> first | rfl | (intro i z; cases z) | (intro z; cases z)
@[simp] theorem ev_not {a} : ev C (.not a) e = (lift (ev C a e)).bind fun p => (boolD p.1).map fun c => (dat (.bool (!c)), p.2) := by rw [ev] <;> first | rfl | (intro i z; cases z) | (intro z; cases z)
@[simp] theorem ev_and {xs} : ev C (.and xs) e = (evAO C true xs e).map fun p => (dat (.bool p.1), p.2) := by rw [ev] <;> first | rfl | (intro i z; cases z) | (intro z; cases z)
@[simp] theorem ev_or {xs} : ev C (.or xs) e = (evAO C false xs e).map fun p => (dat (.bool p.1), p.2) := by rw [ev] <;> first | rfl | (intro i z; cases z) | (intro z; cases z)
@[simp] theorem ev_ife {c a b} : ev C (.ife c a b) e = (lift (ev C c e)).bind fun p => (boolD p.1).bind fun k => if k = true then ev C a p.2 else ev C b p.2 := by rw [ev] <;> first | rfl | (intro i z; cases z) | (intro z; cases z)
@[simp] theorem ev_tup {xs} : ev C (.tup xs) e = (evs C xs e).bind fun p => if p.1.length ≤ sizeLine then some (dat (.tuple p.1), p.2) else none := by rw [ev] <;> first | rfl | (intro i z; cases z) | (intro z; cases z)
@[simp] theorem ev_lst {xs} : ev C (.lst xs) e = (evs C xs e).bind fun p => if p.1.length ≤ sizeLine then some (.b (.lst p.1), p.2) else none := by rw [ev] <;> first | rfl | (intro i z; cases z) | (intro z; cases z)
@[simp] theorem ev_dct0 : ev C .dct0 e = some (.b (.dct []), e) := by rw [ev] <;> first | rfl | (intro i z; cases z) | (intro z; cases z)
@[simp] theorem ev_idx {a i} : ev C (.idx a i) e = (evb C a e).bind fun p => (lift (ev C i p.2)).bind fun q => (now a p.1 q.2).bind fun x => (idxD x q.1).map fun r => (dat r, q.2) := by rw [ev] <;> first | rfl | (intro i z; cases z) | (intro z; cases z)
@[simp] theorem ev_slc {a lo hi} : ev C (.slc a lo hi) e = (evb C a e).bind fun p => (evo C lo p.2).bind fun q => (evo C hi q.2).bind fun z => (now a p.1 z.2).bind fun x => (slcD x q.1 z.1).map fun r => (r, z.2) := by rw [ev] <;> first | rfl | (intro i z; cases z) | (intro z; cases z)
@[simp] theorem ev_call {f xs} : ev C (.call f xs) e = (evas C xs e).bind fun p => if (p.1.2.filterMap id).Nodup then (C f p.1.1).bind fun r => (putBack p.1.2 r.1 p.2).map fun e' => (r.2, e') else none := by rw [ev] <;> first | rfl | (intro i z; cases z) | (intro z; cases z)
@[simp] theorem ev_bi {o a} : ev C (.bi o a) e = (evb C a e).bind fun p => (biD o p.1).map fun r => (r, p.2) := by rw [ev] <;> first | rfl | (intro i z; cases z) | (intro z; cases z)
@[simp] theorem ev_isi {t a} : ev C (.isi t a) e = (evb C a e).map fun p => (dat (.bool (isiD p.1 t)), p.2) := by rw [ev]
/-- one turn of a list's block -/
def trnL (C : CallF) (tg : Tg) (cs : Ms) (elt : M) : D → Env' → Option (Option D × Env') := fun x e => (bind tg x e).bind fun e1 => (evAO C true cs e1).bind fun c => if c.1 = true then (lift (ev C elt c.2)).map fun y => (some y.1, y.2) else some (none, c.2)
def trnG (C : CallF) (tg : Tg) (cs : Ms) (elt : M) (e0 : Env') : D → Option (Option D) := fun x => (bind tg x e0).bind fun e1 => (evAO C true cs e1).bind fun c => if c.1 = true then (lift (ev C elt c.2)).map fun y => some y.1 else some none
@[simp] theorem ev_lc {own tg it cs elt} : ev C (.lc own tg it cs elt) e = (evi C it e).bind fun p => (lcLoop own (trnL C tg cs elt) p.1 p.2 []).map fun q => (.b (.lst q.1), q.2) := by rw [ev] <;> first | rfl | (intro i z; cases z) | (intro z; cases z)
@[simp] theorem ev_all {N cap own tg it cs elt} : ev C (.gen .all N cap own tg it cs elt) e = (evi C it e).bind fun p => (capt p.2 cap).bind fun e0 => (genAll true (trnG C tg cs elt e0) p.1).map fun r => (dat (.bool r), p.2) := by rw [ev] <;> first | rfl | (intro i z; cases z) | (intro z; cases z)
@[simp] theorem ev_any {N cap own tg it cs elt} : ev C (.gen .any N cap own tg it cs elt) e = (evi C it e).bind fun p => (capt p.2 cap).bind fun e0 => (genAll false (trnG C tg cs elt e0) p.1).map fun r => (dat (.bool r), p.2) := by rw [ev] <;> first | rfl | (intro i z; cases z) | (intro z; cases z)
@[simp] theorem ev_gtup {N cap own tg it cs elt} : ev C (.gen .tuple N cap own tg it cs elt) e = (evi C it e).bind fun p => (capt p.2 cap).bind fun e0 => (genTup (trnG C tg cs elt e0) p.1 []).map fun r => (dat (.tuple r), p.2) := by rw [ev] <;> first | rfl | (intro i z; cases z) | (intro z; cases z)
@[simp] theorem evb_bor {i} : evb C (.bor i) e = (getB e i).map fun d => (d, e) := by rw [evb] <;> first | rfl | (intro i z; cases z) | (intro z; cases z)
theorem evb_of {m : M} (h : ∀ i, m ≠ .bor i) : evb C m e = lift (ev C m e) := by
  cases m with
  | bor i => exact absurd rfl (h i)
  | _ => rw [evb] <;> first | rfl | (intro i z; cases z)
@[simp] theorem evb_cst {d} : evb C (.cst d) e = lift (ev C (.cst d) e) := by rw [evb] <;> first | rfl | (intro i z; cases z) | (intro z; cases z)
@[simp] theorem evb_glo {x d} : evb C (.glo x d) e = lift (ev C (.glo x d) e) := by rw [evb] <;> first | rfl | (intro i z; cases z) | (intro z; cases z)
@[simp] theorem evb_var {i} : evb C (.var i) e = lift (ev C (.var i) e) := by rw [evb] <;> first | rfl | (intro i z; cases z) | (intro z; cases z)
@[simp] theorem evb_bin {o a b} : evb C (.bin o a b) e = lift (ev C (.bin o a b) e) := by rw [evb] <;> first | rfl | (intro i z; cases z) | (intro z; cases z)
@[simp] theorem evb_neg {a} : evb C (.neg a) e = lift (ev C (.neg a) e) := by rw [evb] <;> first | rfl | (intro i z; cases z) | (intro z; cases z)
@[simp] theorem evb_cmp {o a b} : evb C (.cmp o a b) e = lift (ev C (.cmp o a b) e) := by rw [evb] <;> first | rfl | (intro i z; cases z) | (intro z; cases z)
@[simp] theorem evb_cmp2 {o o' a b c} : evb C (.cmp2 o o' a b c) e = lift (ev C (.cmp2 o o' a b c) e) := by rw [evb] <;> first | rfl | (intro i z; cases z) | (intro z; cases z)
@[simp] theorem evb_isN {n a} : evb C (.isN n a) e = lift (ev C (.isN n a) e) := by rw [evb] <;> first | rfl | (intro i z; cases z) | (intro z; cases z)
@[simp] theorem evb_not {a} : evb C (.not a) e = lift (ev C (.not a) e) := by rw [evb] <;> first | rfl | (intro i z; cases z) | (intro z; cases z)
@[simp] theorem evb_and {a} : evb C (.and a) e = lift (ev C (.and a) e) := by rw [evb] <;> first | rfl | (intro i z; cases z) | (intro z; cases z)
@[simp] theorem evb_or {a} : evb C (.or a) e = lift (ev C (.or a) e) := by rw [evb] <;> first | rfl | (intro i z; cases z) | (intro z; cases z)
@[simp] theorem evb_ife {c a b} : evb C (.ife c a b) e = lift (ev C (.ife c a b) e) := by rw [evb] <;> first | rfl | (intro i z; cases z) | (intro z; cases z)
@[simp] theorem evb_tup {a} : evb C (.tup a) e = lift (ev C (.tup a) e) := by rw [evb] <;> first | rfl | (intro i z; cases z) | (intro z; cases z)
@[simp] theorem evb_lst {a} : evb C (.lst a) e = lift (ev C (.lst a) e) := by rw [evb] <;> first | rfl | (intro i z; cases z) | (intro z; cases z)
@[simp] theorem evb_idx {a i} : evb C (.idx a i) e = lift (ev C (.idx a i) e) := by rw [evb] <;> first | rfl | (intro i z; cases z) | (intro z; cases z)
@[simp] theorem evb_slc {a i j} : evb C (.slc a i j) e = lift (ev C (.slc a i j) e) := by rw [evb] <;> first | rfl | (intro i z; cases z) | (intro z; cases z)
@[simp] theorem evb_call {f xs} : evb C (.call f xs) e = lift (ev C (.call f xs) e) := by rw [evb] <;> first | rfl | (intro i z; cases z) | (intro z; cases z)
@[simp] theorem evb_bi {o a} : evb C (.bi o a) e = lift (ev C (.bi o a) e) := by rw [evb] <;> first | rfl | (intro i z; cases z) | (intro z; cases z)
@[simp] theorem evb_isi {t a} : evb C (.isi t a) e = lift (ev C (.isi t a) e) := by rw [evb] <;> first | rfl | (intro i z; cases z) | (intro z; cases z)
@[simp] theorem evb_lc {own tg it cs elt} : evb C (.lc own tg it cs elt) e = lift (ev C (.lc own tg it cs elt) e) := by rw [evb] <;> first | rfl | (intro i z; cases z) | (intro z; cases z)
@[simp] theorem evb_gen {gk N cap own tg it cs elt} : evb C (.gen gk N cap own tg it cs elt) e = lift (ev C (.gen gk N cap own tg it cs elt) e) := by rw [evb] <;> first | rfl | (intro i z; cases z) | (intro z; cases z)
@[simp] theorem evo_nul : evo C .nul e = some (none, e) := by rw [evo] <;> first | rfl | (intro i z; cases z) | (intro z; cases z)
@[simp] theorem evo_cst {d} : evo C (.cst d) e = (lift (ev C (.cst d) e)).bind fun p => match p.1 with
    | .int i => some (some i, p.2)
    | _ => none := by rw [evo] <;> first | rfl | (intro i z; cases z) | (intro z; cases z)
@[simp] theorem evs_nil : evs C .nil e = some ([], e) := by rw [evs] <;> first | rfl | (intro i z; cases z) | (intro z; cases z)
@[simp] theorem evs_cons {a r} : evs C (.cons a r) e = (lift (ev C a e)).bind fun p => (evs C r p.2).map fun q => (p.1 :: q.1, q.2) := by rw [evs] <;> first | rfl | (intro i z; cases z) | (intro z; cases z)
@[simp] theorem evOs_nil : evOs C .nil e = some ([], e) := by rw [evOs] <;> first | rfl | (intro i z; cases z) | (intro z; cases z)
@[simp] theorem evOs_cons {a r} : evOs C (.cons a r) e = (ev C a e).bind fun p => (evOs C r p.2).map fun q => (p.1 :: q.1, q.2) := by rw [evOs] <;> first | rfl | (intro i z; cases z) | (intro z; cases z)
@[simp] theorem evas_nil : evas C .nil e = some (([], []), e) := by rw [evas] <;> first | rfl | (intro i z; cases z) | (intro z; cases z)
@[simp] theorem evas_bor {i r} : evas C (.cons (.bor i) r) e = if (e[i]?.join).isSome = true then (evas C r e).bind fun q => match q.2[i]? with
    | some (some o) => some ((o :: q.1.1, some i :: q.1.2), q.2)
    | _ => none
    else none := by rw [evas] <;> first | rfl | (intro i z; cases z) | (intro z; cases z)
theorem evas_of {a r} (h : ∀ i, a ≠ .bor i) : evas C (.cons a r) e = (lift (ev C a e)).bind fun p => (evas C r p.2).map fun q => ((dat p.1 :: q.1.1, none :: q.1.2), q.2) := by
  cases a with
  | bor i => exact absurd rfl (h i)
  | _ => rw [evas] <;> first | rfl | (intro i z; cases z)
@[simp] theorem evAO_nil {go} : evAO C go .nil e = some (go, e) := by rw [evAO] <;> first | rfl | (intro i z; cases z) | (intro z; cases z)
@[simp] theorem evAO_cons {go a r} : evAO C go (.cons a r) e = (lift (ev C a e)).bind fun p => (boolD p.1).bind fun c => if c = go then evAO C go r p.2 else some (!go, p.2) := by rw [evAO]
@[simp] theorem evi_dat {a} : evi C (.dat a) e = (evb C a e).bind fun p => (seqD p.1).map fun xs => (xs, stillM a p.2) := by rw [evi]
@[simp] theorem evi_rng {a} : evi C (.rng a) e = (lift (ev C a e)).bind fun p => match p.1 with
    | .int n => if -(2 ^ 62) ≤ n ∧ n < 2 ^ 62 then some (rngD 0 n.toNat, p.2) else none
    | _ => none := by rw [evi] <;> rfl
@[simp] theorem evi_zip {a b} : evi C (.zip a b) e = (evb C a e).bind fun p => (evb C b p.2).bind fun q => (now a p.1 q.2).bind fun x => match x, q.1 with
    | .list xs, .list ys => some ((xs.zip ys).map fun z => .tuple [z.1, z.2], stillM b (stillM a q.2))
    | .tuple xs, .tuple ys => some ((xs.zip ys).map fun z => .tuple [z.1, z.2], stillM b (stillM a q.2))
    | .list xs, .tuple ys => some ((xs.zip ys).map fun z => .tuple [z.1, z.2], stillM b (stillM a q.2))
    | _, _ => none := by rw [evi] <;> rfl
@[simp] theorem evi_enm {a} : evi C (.enm a) e = (evb C a e).bind fun p => (seqD p.1).map fun xs => (xs.zipIdx.map fun z => .tuple [.int z.2, z.1], stillM a p.2) := by rw [evi]
@[simp] theorem ev_fld {cl i f} : ev C (.fld cl i f) e = match getFB e cl i f with
    | some (.d x) => some (dat x, e)
    | _ => none := by rw [ev] <;> first | rfl | (intro i z; cases z) | (intro z; cases z)
@[simp] theorem ev_fix {cl i f j} : ev C (.fix cl i f j) e = (getFB e cl i f).bind fun b => (getB e j).bind fun x => (idxD b.toD x).map fun r => (dat r, e) := by rw [ev] <;> first | rfl | (intro i z; cases z) | (intro z; cases z)
@[simp] theorem ev_mcall {cl m f i xs} : ev C (.mcall cl m f i xs) e = match e[i]? with
    | some (some (.ins cl' fs)) => if cl' = cl ∧ fs.lookup m = none then (evas C xs e).bind fun q => match q.2[i]? with
      | some (some o) => if ((some i :: q.1.2).filterMap id).Nodup then (C f (o :: q.1.1)).bind fun r => (putBack (some i :: q.1.2) r.1 q.2).map fun e' => (r.2, e') else none
      | _ => none
      else none
    | _ => none := by rw [ev] <;> first | rfl | (intro i z; cases z) | (intro z; cases z)
@[simp] theorem ev_new {cl f xs} : ev C (.new cl f xs) e = (evs C xs e).bind fun q => match C f (.ins cl [] :: q.1.map dat) with
    | some (some (.ins cl' fs) :: _, .b (.d .none)) => if cl' = cl then some (.ins cl fs, q.2) else none
    | _ => none := by rw [ev] <;> first | rfl | (intro i z; cases z) | (intro z; cases z)
@[simp] theorem ev_dct1 {a b} : ev C (.dct1 a b) e = (lift (ev C a e)).bind fun p => (lift (ev C b p.2)).bind fun q => if isKey p.1 = true then some (.b (.dct [(p.1, q.1)]), q.2) else none := by rw [ev] <;> first | rfl | (intro i z; cases z) | (intro z; cases z)
@[simp] theorem ev_inD {n a i} : ev C (.inD n a i) e = (lift (ev C a e)).bind fun p => (dctAt p.2 i).bind fun kvs => if isKey p.1 = true then some (dat (.bool (n != (lookK kvs p.1).isSome)), p.2) else none := by rw [ev] <;> first | rfl | (intro i z; cases z) | (intro z; cases z)
@[simp] theorem ev_getD {i a} : ev C (.getD i a) e = if (dctAt e i).isSome = true then (lift (ev C a e)).bind fun p => (dctAt p.2 i).bind fun kvs => if isKey p.1 = true then (lookK kvs p.1).map fun r => (dat r, p.2) else none else none := by rw [ev] <;> first | rfl | (intro i z; cases z) | (intro z; cases z)
@[simp] theorem ev_nul : ev C .nul e = none := by rw [ev] <;> first | rfl | (intro i z; cases z) | (intro z; cases z)
@[simp] theorem ev_kcall {fx m a ents xs} : ev C (.kcall fx m a ents xs) e = (lift (ev C a e)).bind fun p => match p.1 with
    | .str w => (ents.lookup w).bind fun q => (evas C xs p.2).bind fun z => if (z.1.2.filterMap id).Nodup then (C q.2 (.ins q.1 [] :: z.1.1)).bind fun r => match r.1 with
        | some _ :: tl => (putBack z.1.2 tl z.2).map fun e' => (r.2, e')
        | _ => none
      else none
    | _ => none := by rw [ev] <;> first | rfl | (intro i z; cases z) | (intro z; cases z)
@[simp] theorem ev_gcd {xs} : ev C (.gcd xs) e = (evs C xs e).bind fun p => match p.1 with
    | [.int i, .int j] => some (dat (.int ((Nat.gcd i.natAbs j.natAbs : Nat) : Int)), p.2)
    | _ => none := by rw [ev] <;> first | rfl | (intro i z; cases z) | (intro z; cases z)
@[simp] theorem ev_getDN {i a} : ev C (.getDN i a) e = if (dctAt e i).isSome = true then (lift (ev C a e)).bind fun p => (dctAt p.2 i).bind fun kvs => if isKey p.1 = true then some (dat ((lookK kvs p.1).getD .none), p.2) else none else none := by rw [ev] <;> first | rfl | (intro i z; cases z) | (intro z; cases z)
@[simp] theorem evb_kcall {fx m a ents xs} : evb C (.kcall fx m a ents xs) e = lift (ev C (.kcall fx m a ents xs) e) := by rw [evb] <;> first | rfl | (intro i z; cases z) | (intro z; cases z)
@[simp] theorem evb_gcd {xs} : evb C (.gcd xs) e = lift (ev C (.gcd xs) e) := by rw [evb] <;> first | rfl | (intro i z; cases z) | (intro z; cases z)
@[simp] theorem evb_getDN {i a} : evb C (.getDN i a) e = lift (ev C (.getDN i a) e) := by rw [evb] <;> first | rfl | (intro i z; cases z) | (intro z; cases z)
@[simp] theorem evb_nul : evb C (.nul) e = lift (ev C (.nul) e) := by rw [evb] <;> first | rfl | (intro i z; cases z) | (intro z; cases z)
@[simp] theorem ev_lenset {a} : ev C (.lenset a) e = (evb C a e).bind fun p => match p.1 with
    | .list xs => (intsD xs).bind fun ns => if ns.length ≤ 1000 then some (dat (.int (nubI ns).length), p.2) else none
    | _ => none := by rw [ev] <;> first | rfl | (intro i z; cases z) | (intro z; cases z)
@[simp] theorem ev_rev {a} : ev C (.rev a) e = (evb C a e).bind fun p => match p.1 with
    | .tuple xs => if xs.length ≤ 1000 then some (dat (.tuple xs.reverse), p.2) else none
    | _ => none := by rw [ev] <;> first | rfl | (intro i z; cases z) | (intro z; cases z)
@[simp] theorem ev_strr {a b} : ev C (.strr a b) e = (lift (ev C a e)).bind fun p => (lift (ev C b p.2)).bind fun q => match p.1, q.1 with
    | .int n, .int m => if 0 ≤ n ∧ n ≤ 1000 ∧ 0 ≤ m ∧ m ≤ 1000 then some (.b (.lst (rngD 0 n.toNat ++ rngD 0 m.toNat)), q.2) else none
    | _, _ => none := by rw [ev] <;> first | rfl | (intro i z; cases z) | (intro z; cases z)
@[simp] theorem evb_fld {cl i f} : evb C (.fld cl i f) e = lift (ev C (.fld cl i f) e) := by rw [evb] <;> first | rfl | (intro i z; cases z) | (intro z; cases z)
@[simp] theorem evb_fix {cl i f j} : evb C (.fix cl i f j) e = lift (ev C (.fix cl i f j) e) := by rw [evb] <;> first | rfl | (intro i z; cases z) | (intro z; cases z)
@[simp] theorem evb_mcall {cl m f i xs} : evb C (.mcall cl m f i xs) e = lift (ev C (.mcall cl m f i xs) e) := by rw [evb] <;> first | rfl | (intro i z; cases z) | (intro z; cases z)
@[simp] theorem evb_new {cl f xs} : evb C (.new cl f xs) e = lift (ev C (.new cl f xs) e) := by rw [evb] <;> first | rfl | (intro i z; cases z) | (intro z; cases z)
@[simp] theorem evb_dct1 {a b} : evb C (.dct1 a b) e = lift (ev C (.dct1 a b) e) := by rw [evb] <;> first | rfl | (intro i z; cases z) | (intro z; cases z)
@[simp] theorem evb_inD {n a i} : evb C (.inD n a i) e = lift (ev C (.inD n a i) e) := by rw [evb] <;> first | rfl | (intro i z; cases z) | (intro z; cases z)
@[simp] theorem evb_getD {i a} : evb C (.getD i a) e = lift (ev C (.getD i a) e) := by rw [evb] <;> first | rfl | (intro i z; cases z) | (intro z; cases z)
@[simp] theorem evb_lenset {a} : evb C (.lenset a) e = lift (ev C (.lenset a) e) := by rw [evb] <;> first | rfl | (intro i z; cases z) | (intro z; cases z)
@[simp] theorem evb_rev {a} : evb C (.rev a) e = lift (ev C (.rev a) e) := by rw [evb] <;> first | rfl | (intro i z; cases z) | (intro z; cases z)
@[simp] theorem evb_strr {a b} : evb C (.strr a b) e = lift (ev C (.strr a b) e) := by rw [evb] <;> first | rfl | (intro i z; cases z) | (intro z; cases z)
theorem evo_of {m : M} (h : m ≠ .nul) : evo C m e = (lift (ev C m e)).bind fun p => match p.1 with
    | .int i => some (some i, p.2)
    | _ => none := by
  cases m with
  | nul => exact absurd rfl h
  | _ => rw [evo] <;> first | rfl | (intro i z; cases z) | (intro z; cases z)
@[simp] theorem evS_fset {cl i f m} : evS C (.fset cl i f m) e = (ev C m e).bind fun p => match p.2[i]?, p.1 with
    | some (some (.ins cl' fs)), .b b => if cl' = cl ∧ fs.length < 800 then some (.nx, putO p.2 i (.ins cl (putFD f b fs))) else none
    | _, _ => none := by rw [evS] <;> rfl
@[simp] theorem evS_funp {cl i f g m} : evS C (.funp cl i f g m) e = (lift (ev C m e)).bind fun p => match p.2[i]?, p.1 with
    | some (some (.ins cl' fs)), .tuple [x, y] => if cl' = cl ∧ fs.length < 800 then some (.nx, putO p.2 i (.ins cl (putFD g (.d y) (putFD f (.d x) fs)))) else none
    | _, _ => none := by rw [evS] <;> rfl
@[simp] theorem evS_faug {cl i f o j k} : evS C (.faug cl i f o j k) e = match e[i]?, getFB e cl i f with
    | some (some (.ins _ fs)), some (.lst xs) => (getB e j).bind fun x => (intOf x).bind fun z => (atD xs z).bind fun old => (getB e k).bind fun y => (augD o old y).bind fun w => (L2.ixN xs.length z).map fun q => (.nx, putO e i (.ins cl (putFD f (.lst (xs.set q w)) fs)))
    | _, _ => none := by rw [evS] <;> rfl
@[simp] theorem evS_dput {i ix m} : evS C (.dput i ix m) e = if (dctAt e i).isSome = true then (lift (ev C m e)).bind fun p => (lift (ev C ix p.2)).bind fun q => (dctAt q.2 i).bind fun kvs => if isKey q.1 = true ∧ kvs.length < 1000 then some (.nx, putO q.2 i (.b (.dct (putKD kvs q.1 p.1)))) else none else none := by rw [evS] <;> rfl
@[simp] theorem evS_whl {c b} : evS C (.whl c b) e = whl' (tst C c) (evSs C b) e := by rw [evS]
@[simp] theorem evS_set {i m} : evS C (.set i m) e = (ev C m e).bind fun p => if i < p.2.length then some (.nx, putO p.2 i p.1) else none := by rw [evS]
@[simp] theorem evS_seti {i ix m} : evS C (.seti i ix m) e = if (lstAt e i).isSome = true then (lift (ev C m e)).bind fun p => (lift (ev C ix p.2)).bind fun q => (lstAt q.2 i).bind fun xs => (intOf q.1).bind fun k => (L2.ixN xs.length k).map fun j => (.nx, putO q.2 i (.b (.lst (xs.set j p.1)))) else none := by rw [evS]
@[simp] theorem evS_augi {i o ix m} : evS C (.augi i o ix m) e = if (lstAt e i).isSome = true then (lift (ev C ix e)).bind fun p => (lstAt p.2 i).bind fun xs => (intOf p.1).bind fun k => (atD xs k).bind fun old => (lift (ev C m p.2)).bind fun q => (lstAt q.2 i).bind fun ys =>
    (augD o old q.1).bind fun z => (L2.ixN ys.length k).map fun j => (.nx, putO q.2 i (.b (.lst (ys.set j z)))) else none := by rw [evS]
@[simp] theorem evS_aug {i o m} : evS C (.aug i o m) e = (getV e i).bind fun x => (lift (ev C m e)).bind fun p => (augD o x p.1).map fun r => (.nx, putO p.2 i (dat r)) := by rw [evS]
@[simp] theorem evS_unp {tg m} : evS C (.unp tg m) e = (lift (ev C m e)).bind fun p => (bind tg p.1 p.2).map fun e' => (.nx, e') := by rw [evS]
@[simp] theorem evS_par {is xs} : evS C (.par is xs) e = (evOs C xs e).bind fun p => if p.1.length = is.length ∧ (∀ i ∈ is, i < p.2.length) ∧ (∀ o ∈ p.1, noIns o = true) then some (.nx, putAll p.2 is p.1) else none := by rw [evS]
@[simp] theorem evS_app {i m} : evS C (.app i m) e = if (lstAt e i).isSome = true then (lift (ev C m e)).bind fun p => (lstAt p.2 i).bind fun xs => if xs.length < sizeLine then some (.nx, putO p.2 i (.b (.lst (xs ++ [p.1])))) else none else none := by rw [evS]
@[simp] theorem evS_ret {m} : evS C (.ret m) e = (ev C m e).map fun p => (.rt p.1, p.2) := by rw [evS]
@[simp] theorem evS_ife {c a b} : evS C (.ife c a b) e = (tst C c e).bind fun p => if p.1 = true then evSs C a p.2 else evSs C b p.2 := by rw [evS]
@[simp] theorem evS_for {tg it b} : evS C (.forr tg it b) e = (evi C it e).bind fun p => forLoop (fun x e => (bind tg x e).bind fun e' => evSs C b e') p.1 p.2 := by rw [evS]
@[simp] theorem evSs_nil : evSs C .nil e = some (.nx, e) := by rw [evSs]
@[simp] theorem evSs_cons {a r} : evSs C (.cons a r) e = (evS C a e).bind fun p => match p.1 with
    | .nx => evSs C r p.2
    | .bk => some (.bk, p.2)
    | .ct => some (.ct, p.2)
    | .rt o => some (.rt o, p.2) := by rw [evSs] <;> rfl
@[simp] theorem back_0 {io} : back io 0 e = [] := rfl
@[simp] theorem back_1 {io} : back io 1 e = [if 0 ∈ io then (e[0]?).join else none] := rfl
@[simp] theorem back_2 {io} : back io 2 e = [if 0 ∈ io then (e[0]?).join else none, if 1 ∈ io then (e[1]?).join else none] := rfl
@[simp] theorem back_3 {io} : back io 3 e = [if 0 ∈ io then (e[0]?).join else none, if 1 ∈ io then (e[1]?).join else none, if 2 ∈ io then (e[2]?).join else none] := rfl
@[simp] theorem back_4 {io} : back io 4 e = [if 0 ∈ io then (e[0]?).join else none, if 1 ∈ io then (e[1]?).join else none, if 2 ∈ io then (e[2]?).join else none, if 3 ∈ io then (e[3]?).join else none] := rfl
@[simp] theorem back_5 {io} : back io 5 e = [if 0 ∈ io then (e[0]?).join else none, if 1 ∈ io then (e[1]?).join else none, if 2 ∈ io then (e[2]?).join else none, if 3 ∈ io then (e[3]?).join else none, if 4 ∈ io then (e[4]?).join else none] := rfl
@[simp] theorem back_6 {io} : back io 6 e = [if 0 ∈ io then (e[0]?).join else none, if 1 ∈ io then (e[1]?).join else none, if 2 ∈ io then (e[2]?).join else none, if 3 ∈ io then (e[3]?).join else none, if 4 ∈ io then (e[4]?).join else none, if 5 ∈ io then (e[5]?).join else none] := rfl
end
end MP
set_option linter.all false
set_option maxRecDepth 100000
set_option maxHeartbeats 1000000
/-! Loops of the evaluator, for plain laws. -/
namespace MP
open PySem
theorem genAll_all {turn : D → Option (Option D)} {f : D → Bool} : ∀ {xs : List D}, (∀ x ∈ xs, turn x = some (some (.bool (f x)))) → genAll true turn xs = some (xs.all f)
  | [], h => rfl
  | x :: xs, h => by
    unfold genAll
    rw [h x List.mem_cons_self]
    simp only [Option.bind_some]
    rw [genAll_all fun y hy => h y (List.mem_cons_of_mem _ hy), List.all_cons]
    cases f x <;> rfl
/-- all(.. for .. if ..) -/
theorem genAll_if {turn : D → Option (Option D)} {p f : D → Bool} : ∀ {xs : List D}, (∀ x ∈ xs, turn x = some (if p x = true then some (.bool (f x)) else none)) → genAll true turn xs = some (xs.all fun x => !p x || f x)
  | [], h => rfl
  | x :: xs, h => by
    unfold genAll
    rw [h x List.mem_cons_self]
    simp only [Option.bind_some]
    rw [List.all_cons]
    have ih := genAll_if (xs := xs) fun y hy => h y (List.mem_cons_of_mem _ hy)
    cases p x <;> cases hf : f x <;> simp [ih, hf]
theorem genAny_any {turn : D → Option (Option D)} {f : D → Bool} : ∀ {xs : List D}, (∀ x ∈ xs, turn x = some (some (.bool (f x)))) → genAll false turn xs = some (xs.any f)
  | [], h => rfl
  | x :: xs, h => by
    unfold genAll
    rw [h x List.mem_cons_self]
    simp only [Option.bind_some]
    rw [genAny_any fun y hy => h y (List.mem_cons_of_mem _ hy), List.any_cons]
    cases f x <;> rfl
/-- a for without break, return -/
theorem for_ind {turn : D → Env' → Out} {xs : List D} (P : Nat → Env' → Prop) (h : ∀ i x e, xs[i]? = some x → P i e → ∃ e', turn x e = some (.nx, e') ∧ P (i + 1) e') {e : Env'} (h0 : P 0 e) : ∃ e', forLoop turn xs e = some (.nx, e') ∧ P xs.length e' := by
  have key : ∀ (ys : List D) (k : Nat) (e : Env'), xs.drop k = ys → k + ys.length = xs.length → P k e → ∃ e', forLoop turn ys e = some (.nx, e') ∧ P xs.length e' := by
    intro ys
    induction ys with
    | nil =>
      intro k e _ hk p
      exact ⟨e, rfl, by rw [← hk]; exact p⟩
    | cons y ys ih =>
      intro k e hd hk p
      have hk' : k < xs.length := by rw [List.length_cons] at hk; omega
      have hy : xs[k]? = some y := by
        have := List.drop_eq_getElem_cons hk'
        rw [hd] at this
        injection this with h1 _
        rw [List.getElem?_eq_getElem hk', h1]
      obtain ⟨e1, h1, p1⟩ := h k y e hy p
      have hd' : xs.drop (k + 1) = ys := by
        have := List.drop_eq_getElem_cons hk'
        rw [hd] at this
        injection this with _ h2
        exact h2.symm
      obtain ⟨e2, h2, p2⟩ := ih (k + 1) e1 hd' (by rw [List.length_cons] at hk; omega) p1
      refine ⟨e2, ?_, p2⟩
      unfold forLoop
      rw [h1]
      exact h2
  exact key xs 0 e rfl (by simp) h0
/-- a list's block whose turns do not touch the outer names -/
theorem lc_map {own : List Nat} {turn : D → Env' → Option (Option D × Env')} {f : D → Option D} {w : Env'} : ∀ {xs : List D} {e : Env'} {acc : List D}, (∀ x ∈ xs, ∃ e', turn x w = some (f x, e') ∧ wipe' e' own = w) → wipe' e own = w → acc.length + xs.length ≤ sizeLine →
    lcLoop own turn xs e acc = some (acc ++ xs.filterMap f, w)
  | [], e, acc, h, hw, hl => by
    unfold lcLoop
    rw [hw, List.filterMap_nil, List.append_nil]
  | x :: xs, e, acc, h, hw, hl => by
    unfold lcLoop
    obtain ⟨e', h1, h2⟩ := h x List.mem_cons_self
    rw [hw, h1, Option.bind_some]
    rw [List.length_cons] at hl
    cases hf : f x with
    | none =>
      rw [List.filterMap_cons, hf]
      exact lc_map (fun y hy => h y (List.mem_cons_of_mem _ hy)) h2 (by omega)
    | some y =>
      rw [List.filterMap_cons, hf]
      simp only
      rw [if_pos (by omega), lc_map (fun y hy => h y (List.mem_cons_of_mem _ hy)) h2 (by rw [List.length_append]; simp; omega)]
      simp
/-- ints as data -/
abbrev il (ns : List Int) : List D := ns.map .int
theorem intsD_il : ∀ ns : List Int, intsD (il ns) = some ns
  | [] => rfl
  | n :: ns => by
    show (intsD (il ns)).map (n :: ·) = _
    rw [intsD_il ns]
    rfl
theorem atD_nat {xs : List D} {i : Nat} {d : D} (h : xs[i]? = some d) : atD xs (i : Int) = some d := by
  have hi := (List.getElem?_eq_some_iff.mp h).1
  unfold atD L2.atI L2.ixN
  rw [if_pos (by omega), if_pos (by omega)]
  simpa using h
theorem ixN_nat {n i : Nat} (h : i < n) : L2.ixN n (i : Int) = some i := by
  unfold L2.ixN
  rw [if_pos (by omega), if_pos (by omega)]
  simp
@[simp] theorem atD_0 {x : D} {xs : List D} : atD (x :: xs) 0 = some x := atD_nat (i := 0) rfl
@[simp] theorem atD_1 {x y : D} {xs : List D} : atD (x :: y :: xs) 1 = some y := atD_nat (i := 1) rfl
@[simp] theorem atD_2 {x y z : D} {xs : List D} : atD (x :: y :: z :: xs) 2 = some z := atD_nat (i := 2) rfl
@[simp] theorem atD_3 {x y z w : D} {xs : List D} : atD (x :: y :: z :: w :: xs) 3 = some w := atD_nat (i := 3) rfl
@[simp] theorem atD_4 {x y z w u : D} {xs : List D} : atD (x :: y :: z :: w :: u :: xs) 4 = some u := atD_nat (i := 4) rfl
end MP
set_option linter.all false
set_option maxRecDepth 100000
set_option maxHeartbeats 1000000
/-! Statement by statement, for plain laws. -/
namespace MP
open PySem
def Go (C : CallF) (b : Ss) (e : Env') (Q : Fl → Env' → Prop) : Prop := ∃ fl e', evSs C b e = some (fl, e') ∧ Q fl e'
section
variable {C : CallF} {a : Sm} {r b : Ss} {m c : M} {e e' : Env'} {Q : Fl → Env' → Prop}
theorem Go.step (h : evS C a e = some (.nx, e')) (k : Go C r e' Q) : Go C (.cons a r) e Q := by
  obtain ⟨fl, e2, h2, q⟩ := k
  exact ⟨fl, e2, by rw [evSs_cons, h]; exact h2, q⟩
theorem Go.stepE (h : ∃ e', evS C a e = some (.nx, e') ∧ Go C r e' Q) : Go C (.cons a r) e Q := by
  obtain ⟨e', h, k⟩ := h
  exact Go.step h k
theorem Go.nil (q : Q .nx e) : Go C .nil e Q := ⟨.nx, e, evSs_nil, q⟩
theorem Go.ret {o : O} (h : ev C m e = some (o, e')) (q : Q (.rt o) e') : Go C (.cons (.ret m) r) e Q := ⟨.rt o, e', by rw [evSs_cons, evS_ret, h]; rfl, q⟩
theorem Go.ifeT {b' : Ss} (h : tst C c e = some (true, e')) (k : Go C b e' fun fl e2 => match fl with
    | .nx => Go C r e2 Q
    | fl => Q fl e2) : Go C (.cons (.ife c b b') r) e Q := by
  obtain ⟨fl, e2, h2, q⟩ := k
  have hs : evS C (.ife c b b') e = some (fl, e2) := by rw [evS_ife, h]; exact h2
  cases fl with
  | nx => exact Go.step hs q
  | bk => exact ⟨_, _, by rw [evSs_cons, hs]; rfl, q⟩
  | ct => exact ⟨_, _, by rw [evSs_cons, hs]; rfl, q⟩
  | rt o => exact ⟨_, _, by rw [evSs_cons, hs]; rfl, q⟩
theorem Go.ifeF {b' : Ss} (h : tst C c e = some (false, e')) (k : Go C b' e' fun fl e2 => match fl with
    | .nx => Go C r e2 Q
    | fl => Q fl e2) : Go C (.cons (.ife c b b') r) e Q := by
  obtain ⟨fl, e2, h2, q⟩ := k
  have hs : evS C (.ife c b b') e = some (fl, e2) := by rw [evS_ife, h]; exact h2
  cases fl with
  | nx => exact Go.step hs q
  | bk => exact ⟨_, _, by rw [evSs_cons, hs]; rfl, q⟩
  | ct => exact ⟨_, _, by rw [evSs_cons, hs]; rfl, q⟩
  | rt o => exact ⟨_, _, by rw [evSs_cons, hs]; rfl, q⟩
theorem Go.mono {Q' : Fl → Env' → Prop} (h : Go C b e Q) (hq : ∀ fl e, Q fl e → Q' fl e) : Go C b e Q' := by
  obtain ⟨fl, e2, h2, q⟩ := h
  exact ⟨fl, e2, h2, hq _ _ q⟩
theorem call_of {f : Fn} {xs : List O} {o : O} {bs : List (Option O)} (hl : xs.length = f.np) (h : Go C f.body (xs.map some ++ List.replicate (f.nn - f.np) none) fun fl e' => fl = .rt o ∧ back f.io f.np e' = bs) : callF f C xs = some (bs, o) := by
  obtain ⟨fl, e', h, rfl, rfl⟩ := h
  unfold callF
  rw [if_pos hl, h]
  rfl
theorem call_ex {f : Fn} {xs : List O} {Q : List (Option O) → O → Prop} (hl : xs.length = f.np) (h : Go C f.body (xs.map some ++ List.replicate (f.nn - f.np) none) fun fl e' => ∃ o, fl = .rt o ∧ Q (back f.io f.np e') o) : ∃ bs o, callF f C xs = some (bs, o) ∧ Q bs o := by
  obtain ⟨fl, e', h, o, rfl, q⟩ := h
  refine ⟨_, o, ?_, q⟩
  unfold callF
  rw [if_pos hl, h]
  rfl
/-- a for without break, return -/
theorem Go.forr {tg : Tg} {it : Itm} {xs : List D} {e1 : Env'} (P : Nat → Env' → Prop) (hi : evi C it e = some (xs, e1)) (h0 : P 0 e1)
    (h : ∀ i x e, xs[i]? = some x → P i e → ∃ e', (MP.bind tg x e) = some e' ∧ Go C b e' fun fl e2 => fl = .nx ∧ P (i + 1) e2) (k : ∀ e2, P xs.length e2 → Go C r e2 Q) : Go C (.cons (.forr tg it b) r) e Q := by
  obtain ⟨e2, h1, h2⟩ := for_ind (turn := fun x e => (MP.bind tg x e).bind fun e' => evSs C b e') P (fun i x e hx p => by
    obtain ⟨e', hb, fl, e2, h2, rfl, p2⟩ := h i x e hx p
    exact ⟨e2, by show (MP.bind tg x e).bind _ = _; rw [hb]; exact h2, p2⟩) h0
  refine Go.step (e' := e2) ?_ (k e2 h2)
  rw [evS_for, hi]
  exact h1
theorem now_of {d : D} (h : ∀ i, m ≠ .bor i) : now m d e = some d := by
  cases m with
  | bor i => exact absurd rfl (h i)
  | _ => rfl
end
end MP
set_option linter.all false
set_option maxRecDepth 100000
set_option maxHeartbeats 1000000
/-! Blocks of lists, for plain laws. -/
namespace MP
open PySem
/-- a list's block, in general -/
theorem lc_ind {own : List Nat} {turn : D → Env' → Option (Option D × Env')} {xs : List D} (P : Nat → Env' → List D → Prop)
    (h : ∀ i x e acc, xs[i]? = some x → P i e acc → ∃ o e', turn x (wipe' e own) = some (o, e') ∧ P (i + 1) e' (acc ++ o.toList))
    (hs : ∀ i e acc, P i e acc → acc.length ≤ i) (hx : xs.length ≤ sizeLine) {e : Env'} (h0 : P 0 e []) : ∃ e' ys, lcLoop own turn xs e [] = some (ys, wipe' e' own) ∧ P xs.length e' ys := by
  have key : ∀ (ys : List D) (k : Nat) (e : Env') (acc : List D), xs.drop k = ys → k + ys.length = xs.length → P k e acc → ∃ e' zs, lcLoop own turn ys e acc = some (zs, wipe' e' own) ∧ P xs.length e' zs := by
    intro ys
    induction ys with
    | nil =>
      intro k e acc _ hk p
      exact ⟨e, acc, rfl, by rw [← hk]; exact p⟩
    | cons y ys ih =>
      intro k e acc hd hk p
      have hk' : k < xs.length := by rw [List.length_cons] at hk; omega
      have hy : xs[k]? = some y := by
        have := List.drop_eq_getElem_cons hk'
        rw [hd] at this
        injection this with h1 _
        rw [List.getElem?_eq_getElem hk', h1]
      obtain ⟨o, e1, h1, p1⟩ := h k y e acc hy p
      have hd' : xs.drop (k + 1) = ys := by
        have := List.drop_eq_getElem_cons hk'
        rw [hd] at this
        injection this with _ h2
        exact h2.symm
      obtain ⟨e2, zs, h2, p2⟩ := ih (k + 1) e1 _ hd' (by rw [List.length_cons] at hk; omega) p1
      refine ⟨e2, zs, ?_, p2⟩
      unfold lcLoop
      rw [h1, Option.bind_some]
      have hl := hs _ _ _ p
      cases o with
      | none => simpa using h2
      | some z =>
        simp only
        rw [if_pos (by omega)]
        exact h2
  exact key xs 0 e [] rfl (by simp) h0
/-- numbers that a test keeps -/
theorem lc_rng {own : List Nat} {turn : D → Env' → Option (Option D × Env')} {p : Nat → Bool} {w e : Env'} {n : Nat} (hn : n ≤ sizeLine) (h : ∀ i, i < n → ∃ e', turn (.int (i : Int)) w = some (if p i = true then some (.int (i : Int)) else none, e') ∧ wipe' e' own = w) (hw : wipe' e own = w) :
    ∃ ks : List Nat, lcLoop own turn (rngD 0 n) e [] = some (ks.map fun k => .int (k : Int), w) ∧ ks = (List.range n).filter p := by
  refine ⟨_, ?_, rfl⟩
  let f : D → Option D := fun d => match d with
    | .int i => if p i.toNat = true then some d else none
    | _ => none
  rw [lc_map (f := f) (w := w)]
  · rw [List.nil_append]
    congr 2
    unfold rngD
    rw [List.filterMap_map]
    induction List.range n with
    | nil => rfl
    | cons k ks ih =>
      rw [List.filterMap_cons, List.filter_cons]
      have : (f ∘ fun (i : Nat) => PyData.int (0 + (i : Int))) k = if p k = true then some (.int (k : Int)) else none := by
        show (if p (0 + (k : Int)).toNat = true then some (PyData.int (0 + (k : Int))) else none) = _
        rw [Int.zero_add, Int.toNat_natCast]
      rw [this]
      cases p k
      · simpa using ih
      · simpa using ih
  · intro x hx
    unfold rngD at hx
    obtain ⟨i, hi, rfl⟩ := List.mem_map.mp hx
    rw [List.mem_range] at hi
    obtain ⟨e', h1, h2⟩ := h i hi
    refine ⟨e', ?_, h2⟩
    rw [Int.zero_add, h1]
    show _ = some (if p (i : Int).toNat = true then some (PyData.int (i : Int)) else none, e')
    rw [Int.toNat_natCast]
  · exact hw
  · unfold rngD
    simpa using hn
theorem filter_none {p : Nat → Bool} {n : Nat} : decide ((((List.range n).filter p).length : Int) = 0) = (List.range n).all fun i => !p i := by
  rw [Bool.eq_iff_iff, decide_eq_true_eq, List.all_eq_true]
  constructor
  · intro h i hi
    have h' : ((List.range n).filter p) = [] := List.length_eq_zero_iff.mp (by omega)
    have := List.filter_eq_nil_iff.mp h' i hi
    simpa using this
  · intro h
    have h' : ((List.range n).filter p) = [] := List.filter_eq_nil_iff.mpr fun i hi => by simpa using h i hi
    rw [h']
    rfl
theorem filter_some {p : Nat → Bool} {n : Nat} : decide (0 < (((List.range n).filter p).length : Int)) = !(List.range n).all fun i => !p i := by
  rw [← filter_none (p := p)]
  by_cases h : (((List.range n).filter p).length : Int) = 0
  · rw [decide_eq_true h]
    exact decide_eq_false (by omega)
  · rw [decide_eq_false h]
    exact decide_eq_true (by omega)
end MP
namespace MP
open PySem
theorem lc_mapA {α : Type} {own : List Nat} {turn : D → Env' → Option (Option D × Env')} {w : Env'} (g : α → D) (f : α → Option D) : ∀ {xs : List α} {e : Env'} {acc : List D}, (∀ x ∈ xs, ∃ e', turn (g x) w = some (f x, e') ∧ wipe' e' own = w) → wipe' e own = w → acc.length + xs.length ≤ sizeLine →
    lcLoop own turn (xs.map g) e acc = some (acc ++ xs.filterMap f, w)
  | [], e, acc, h, hw, hl => by
    show some (acc, wipe' e own) = _
    rw [hw, List.filterMap_nil, List.append_nil]
  | x :: xs, e, acc, h, hw, hl => by
    rw [List.map_cons]
    unfold lcLoop
    obtain ⟨e', h1, h2⟩ := h x List.mem_cons_self
    rw [hw, h1, Option.bind_some]
    rw [List.length_cons] at hl
    cases hf : f x with
    | none =>
      rw [List.filterMap_cons, hf]
      exact lc_mapA g f (fun y hy => h y (List.mem_cons_of_mem _ hy)) h2 (by omega)
    | some y =>
      rw [List.filterMap_cons, hf]
      simp only
      rw [if_pos (by omega), lc_mapA g f (fun y hy => h y (List.mem_cons_of_mem _ hy)) h2 (by rw [List.length_append]; simp; omega)]
      simp
theorem genAll_ifA {α : Type} {turn : D → Option (Option D)} (g : α → D) (p f : α → Bool) : ∀ {xs : List α}, (∀ x ∈ xs, turn (g x) = some (if p x = true then some (.bool (f x)) else none)) → genAll true turn (xs.map g) = some (xs.all fun x => !p x || f x)
  | [], h => rfl
  | x :: xs, h => by
    rw [List.map_cons]
    unfold genAll
    rw [h x List.mem_cons_self]
    simp only [Option.bind_some]
    rw [List.all_cons]
    have ih := genAll_ifA g p f (xs := xs) fun y hy => h y (List.mem_cons_of_mem _ hy)
    cases p x <;> cases hf : f x <;> simp [ih, hf]
theorem genAll_allA {α : Type} {turn : D → Option (Option D)} (g : α → D) (f : α → Bool) {xs : List α} (h : ∀ x ∈ xs, turn (g x) = some (some (.bool (f x)))) : genAll true turn (xs.map g) = some (xs.all f) := by
  rw [genAll_ifA g (fun _ => true) f (fun x hx => by rw [h x hx]; rfl)]
  rfl
theorem filterMap_if {α β : Type} (g : α → β) (p : α → Bool) : ∀ xs : List α, xs.filterMap (fun x => if p x = true then some (g x) else none) = (xs.filter p).map g
  | [] => rfl
  | x :: xs => by
    rw [List.filterMap_cons, List.filter_cons, filterMap_if g p xs]
    cases p x <;> rfl
/-- what a test keeps -/
theorem lc_filter {α : Type} {own : List Nat} {turn : D → Env' → Option (Option D × Env')} {w : Env'} (g : α → D) (p : α → Bool) {xs : List α} {e : Env'} (h : ∀ x ∈ xs, ∃ e', turn (g x) w = some (if p x = true then some (g x) else none, e') ∧ wipe' e' own = w) (hw : wipe' e own = w) (hl : xs.length ≤ sizeLine) :
    lcLoop own turn (xs.map g) e [] = some ((xs.filter p).map g, w) := by
  rw [lc_mapA g (fun x => if p x = true then some (g x) else none) h hw (by simpa using hl), filterMap_if]
  rfl
end MP
set_option linter.all false
set_option maxRecDepth 100000
set_option maxHeartbeats 1000000
/-! While, for plain laws. -/
namespace MP
open PySem
theorem whl_more {test : Env' → Option (Bool × Env')} {turn : Env' → Out} : ∀ {n : Nat} {e : Env'} {r : Fl × Env'}, whlLoop test turn n e = some r → whlLoop test turn (n + 1) e = some r
  | 0, e, r, h => by cases h
  | n + 1, e, r, h => by
    unfold whlLoop at h ⊢
    cases ht : test e with
    | none => rw [ht] at h; cases h
    | some t =>
      rw [ht] at h
      simp only [Option.bind_some] at h ⊢
      by_cases c : t.1 = true
      · rw [if_pos c] at h ⊢
        cases hb : turn t.2 with
        | none => rw [hb] at h; cases h
        | some p =>
          rw [hb] at h
          simp only [Option.bind_some] at h ⊢
          obtain ⟨fl, e2⟩ := p
          cases fl with
          | nx => exact whl_more h
          | ct => exact whl_more h
          | bk => exact h
          | rt o => exact h
      · rw [if_neg c] at h ⊢
        exact h
theorem whl_add {test : Env' → Option (Bool × Env')} {turn : Env' → Out} {n : Nat} {e : Env'} {r : Fl × Env'} (h : whlLoop test turn n e = some r) : ∀ j, whlLoop test turn (n + j) e = some r
  | 0 => h
  | j + 1 => whl_more (whl_add h j)
theorem whl_det {test : Env' → Option (Bool × Env')} {turn : Env' → Out} {n n' : Nat} {e : Env'} {r r' : Fl × Env'} (h : whlLoop test turn n e = some r) (h' : whlLoop test turn n' e = some r') : r = r' := by
  have a := whl_add h n'
  have b := whl_add h' n
  rw [Nat.add_comm] at b
  rw [a] at b
  injection b
theorem whl_is {test : Env' → Option (Bool × Env')} {turn : Env' → Out} {n : Nat} {e : Env'} {r : Fl × Env'} (h : whlLoop test turn n e = some r) : whl' test turn e = some r := by
  unfold whl'
  have hx : ∃ n r, whlLoop test turn n e = some r := ⟨n, r, h⟩
  rw [dif_pos hx]
  obtain ⟨r', h'⟩ := hx.choose_spec
  rw [h', whl_det h h']
theorem Go.whl {C : CallF} {r b : Ss} {c : M} {e : Env'} {Q : Fl → Env' → Prop} (P : Nat → Env' → Prop) (n : Nat) (h0 : P n e)
    (h : ∀ n e, P n e → (∃ e1, tst C c e = some (true, e1) ∧ Go C b e1 fun fl e2 => match fl with
        | .nx => ∃ n', n' < n ∧ P n' e2
        | .ct => ∃ n', n' < n ∧ P n' e2
        | .bk => Go C r e2 Q
        | .rt o => Q (.rt o) e2) ∨ (∃ e1, tst C c e = some (false, e1) ∧ Go C r e1 Q)) : Go C (.cons (.whl c b) r) e Q := by
  have key : ∀ (n : Nat) (e : Env'), P n e → ∃ N fl e2, whlLoop (tst C c) (evSs C b) N e = some (fl, e2) ∧ ((fl = .nx ∧ Go C r e2 Q) ∨ ∃ o, fl = .rt o ∧ Q fl e2) := by
    intro n
    induction n using Nat.strongRecOn with
    | ind n ih =>
      intro e p
      rcases h n e p with ⟨e1, ht, fl, e2, hb, q⟩ | ⟨e1, ht, q⟩
      · cases fl with
        | nx =>
          obtain ⟨n', hn, p'⟩ := q
          obtain ⟨N, fl, e3, h3, q3⟩ := ih n' hn e2 p'
          exact ⟨N + 1, fl, e3, by unfold whlLoop; rw [ht, Option.bind_some, if_pos rfl, hb]; exact h3, q3⟩
        | ct =>
          obtain ⟨n', hn, p'⟩ := q
          obtain ⟨N, fl, e3, h3, q3⟩ := ih n' hn e2 p'
          exact ⟨N + 1, fl, e3, by unfold whlLoop; rw [ht, Option.bind_some, if_pos rfl, hb]; exact h3, q3⟩
        | bk => exact ⟨1, .nx, e2, by unfold whlLoop; rw [ht, Option.bind_some, if_pos rfl, hb]; rfl, Or.inl ⟨rfl, q⟩⟩
        | rt o => exact ⟨1, .rt o, e2, by unfold whlLoop; rw [ht, Option.bind_some, if_pos rfl, hb]; rfl, Or.inr ⟨o, rfl, q⟩⟩
      · exact ⟨1, .nx, e1, by unfold whlLoop; rw [ht, Option.bind_some, if_neg (by simp)], Or.inl ⟨rfl, q⟩⟩
  obtain ⟨N, fl, e2, h2, q2⟩ := key n e h0
  have hs : evS C (.whl c b) e = some (fl, e2) := by
    show whl' (tst C c) (evSs C b) e = _
    exact whl_is h2
  rcases q2 with ⟨rfl, q⟩ | ⟨o, rfl, q⟩
  · exact Go.step hs q
  · exact ⟨.rt o, e2, by rw [evSs_cons, hs]; rfl, q⟩
end MP
set_option linter.all false
set_option maxRecDepth 100000
set_option maxHeartbeats 1000000
namespace K57P
open PySem MP
def b_is_integer : Ss := (.cons (.ret (.and (.cons (.isi .int (.bor 0)) (.cons (.not (.isi .bool (.bor 0))) .nil)))) .nil)
def f_is_integer : Fn := ⟨1, 1, [], b_is_integer⟩
def b_is_within : Ss := (.cons (.ret (.and (.cons (.call 0 (.cons (.var 0) .nil)) (.cons (.cmp2 .le .le (.var 1) (.var 0) (.var 2)) .nil)))) .nil)
def f_is_within : Fn := ⟨3, 3, [], b_is_within⟩
def b_is_row : Ss := (.cons (.ret (.and (.cons (.isi .tuple (.bor 0)) (.cons (.cmp .eq (.bi .len (.bor 0)) (.bor 1)) (.cons (.gen .all ["one"] [none] [0] (.nm 0) (.dat (.bor 0)) .nil (.call 0 (.cons (.var 0) .nil))) .nil))))) .nil)
def f_is_row : Fn := ⟨2, 2, [], b_is_row⟩
def b_is_row_within : Ss := (.cons (.ret (.and (.cons (.call 2 (.cons (.var 0) (.cons (.var 1) .nil))) (.cons (.gen .all ["one", "high", "low"] [none, some 3, some 2] [0] (.nm 0) (.dat (.bor 0)) .nil (.cmp2 .le .le (.var 2) (.var 0) (.var 1))) .nil)))) .nil)
def f_is_row_within : Fn := ⟨4, 4, [], b_is_row_within⟩
def b_is_worded : Ss := (.cons (.ife (.or (.cons (.not (.isi .tuple (.bor 0))) (.cons (.cmp .ne (.bi .len (.bor 0)) (.bor 2)) .nil))) (.cons (.ret (.cst (.bool false))) .nil) .nil) (.cons (.ret (.and (.cons (.isi .str (.idx (.bor 0) (.cst (.int 0)))) (.cons (.cmp .eq (.idx (.bor 0) (.cst (.int 0))) (.bor 1)) .nil)))) .nil))
def f_is_worded : Fn := ⟨3, 3, [], b_is_worded⟩
def b_is_places : Ss := (.cons (.ife (.or (.cons (.not (.isi .tuple (.bor 0))) (.cons (.not (.gen .all ["one", "number"] [none, some 1] [0] (.nm 0) (.dat (.bor 0)) .nil (.call 1 (.cons (.var 0) (.cons (.cst (.int 0)) (.cons (.bin .sub (.bor 1) (.cst (.int 1))) .nil)))))) .nil))) (.cons (.ret (.cst (.bool false))) .nil) .nil) (.cons (.ret (.call 6 (.cons (.var 0) .nil))) .nil))
def f_is_places : Fn := ⟨2, 2, [], b_is_places⟩
def b_is_ascending : Ss := (.cons (.ret (.gen .all ["k", "row"] [none, some 0] [0] (.nm 0) (.rng (.bin .sub (.bi .len (.bor 0)) (.cst (.int 1)))) .nil (.cmp .lt (.idx (.bor 1) (.var 0)) (.idx (.bor 1) (.bin .add (.bor 0) (.cst (.int 1))))))) .nil)
def f_is_ascending : Fn := ⟨1, 1, [], b_is_ascending⟩
def b_crossing : Ss := (.cons (.ret (.bi .sum (.lc [2] (.nm 2) (.dat (.idx (.bor 0) (.cst (.int 1)))) (.cons (.and (.cons (.cmp .inn (.idx (.bor 2) (.cst (.int 0))) (.bor 1)) (.cons (.cmp .notIn (.idx (.bor 2) (.cst (.int 1))) (.bor 1)) .nil))) .nil) (.idx (.bor 2) (.cst (.int 2)))))) .nil)
def f_crossing : Fn := ⟨2, 3, [], b_crossing⟩
def b_is_quotient : Ss := (.cons (.ret (.and (.cons (.call 2 (.cons (.var 0) (.cons (.cst (.int 2)) .nil))) (.cons (.cmp .gt (.idx (.bor 0) (.cst (.int 1))) (.cst (.int 0))) (.cons (.cmp .eq (.gcd (.cons (.idx (.bor 0) (.cst (.int 0))) (.cons (.idx (.bor 0) (.cst (.int 1))) .nil))) (.cst (.int 1))) .nil))))) .nil)
def f_is_quotient : Fn := ⟨1, 1, [], b_is_quotient⟩
def b_quotient : Ss := (.cons (.set 2 (.ife (.cmp .gt (.bor 1) (.cst (.int 0))) (.gcd (.cons (.var 0) (.cons (.var 1) .nil))) (.neg (.gcd (.cons (.var 0) (.cons (.var 1) .nil)))))) (.cons (.ret (.tup (.cons (.bin .fdiv (.bor 0) (.bor 2)) (.cons (.bin .fdiv (.bor 1) (.bor 2)) .nil)))) .nil))
def f_quotient : Fn := ⟨2, 3, [], b_quotient⟩
def b_plus : Ss := (.cons (.ret (.call 9 (.cons (.bin .add (.bin .mul (.idx (.bor 0) (.cst (.int 0))) (.idx (.bor 1) (.cst (.int 1)))) (.bin .mul (.idx (.bor 1) (.cst (.int 0))) (.idx (.bor 0) (.cst (.int 1))))) (.cons (.bin .mul (.idx (.bor 0) (.cst (.int 1))) (.idx (.bor 1) (.cst (.int 1)))) .nil)))) .nil)
def f_plus : Fn := ⟨2, 2, [], b_plus⟩
def b_minus : Ss := (.cons (.ret (.call 9 (.cons (.bin .sub (.bin .mul (.idx (.bor 0) (.cst (.int 0))) (.idx (.bor 1) (.cst (.int 1)))) (.bin .mul (.idx (.bor 1) (.cst (.int 0))) (.idx (.bor 0) (.cst (.int 1))))) (.cons (.bin .mul (.idx (.bor 0) (.cst (.int 1))) (.idx (.bor 1) (.cst (.int 1)))) .nil)))) .nil)
def f_minus : Fn := ⟨2, 2, [], b_minus⟩
def b_times : Ss := (.cons (.ret (.call 9 (.cons (.bin .mul (.idx (.bor 0) (.cst (.int 0))) (.idx (.bor 1) (.cst (.int 0)))) (.cons (.bin .mul (.idx (.bor 0) (.cst (.int 1))) (.idx (.bor 1) (.cst (.int 1)))) .nil)))) .nil)
def f_times : Fn := ⟨2, 2, [], b_times⟩
def b_is_less : Ss := (.cons (.ret (.cmp .lt (.bin .mul (.idx (.bor 0) (.cst (.int 0))) (.idx (.bor 1) (.cst (.int 1)))) (.bin .mul (.idx (.bor 1) (.cst (.int 0))) (.idx (.bor 0) (.cst (.int 1)))))) .nil)
def f_is_less : Fn := ⟨2, 2, [], b_is_less⟩
def b_total : Ss := (.cons (.set 1 (.tup (.cons (.cst (.int 0)) (.cons (.cst (.int 1)) .nil)))) (.cons (.forr (.nm 2) (.dat (.bor 0)) (.cons (.set 1 (.call 10 (.cons (.var 1) (.cons (.var 2) .nil)))) .nil)) (.cons (.ret (.mov 1)) .nil)))
def f_total : Fn := ⟨1, 3, [], b_total⟩
def b_is_quotient_row : Ss := (.cons (.ret (.and (.cons (.isi .tuple (.bor 0)) (.cons (.cmp .eq (.bi .len (.bor 0)) (.bor 1)) (.cons (.gen .all ["one"] [none] [0] (.nm 0) (.dat (.bor 0)) .nil (.call 8 (.cons (.var 0) .nil))) .nil))))) .nil)
def f_is_quotient_row : Fn := ⟨2, 2, [], b_is_quotient_row⟩
def b_is_crowd : Ss := (.cons (.set 3 (.bi .sum (.lc [4] (.nm 4) (.dat (.bor 0)) (.cons (.and (.cons (.cmp .notIn (.idx (.bor 4) (.cst (.int 0))) (.bor 2)) (.cons (.cmp .inn (.idx (.bor 4) (.cst (.int 1))) (.bor 2)) .nil))) .nil) (.idx (.bor 4) (.cst (.int 3)))))) (.cons (.set 5 (.bi .sum (.lc [4] (.nm 4) (.dat (.bor 0)) (.cons (.and (.cons (.cmp .inn (.idx (.bor 4) (.cst (.int 0))) (.bor 2)) (.cons (.cmp .notIn (.idx (.bor 4) (.cst (.int 1))) (.bor 2)) .nil))) .nil) (.idx (.bor 4) (.cst (.int 2)))))) (.cons (.ret (.cmp .gt (.bi .sum (.lc [6] (.nm 6) (.dat (.bor 2)) .nil (.idx (.bor 1) (.var 6)))) (.bin .sub (.bor 3) (.bor 5)))) .nil)))
def f_is_crowd : Fn := ⟨3, 7, [], b_is_crowd⟩
def b_Task_judge : Ss := (.cons (.unp (.cons (.nm 3) (.cons (.nm 4) (.cons (.nm 5) (.t1 (.nm 6))))) (.var 1)) (.cons (.ife (.call 4 (.cons (.var 2) (.cons (.cst (.str "row")) (.cons (.cst (.int 2)) .nil)))) (.cons (.set 7 (.idx (.bor 2) (.cst (.int 1)))) (.cons (.ife (.or (.cons (.not (.call 2 (.cons (.var 7) (.cons (.bi .len (.bor 4)) .nil)))) (.cons (.not (.gen .all ["amount", "arc"] [none, none] [0, 1] (.cons (.nm 0) (.t1 (.nm 1))) (.zip (.bor 7) (.bor 4)) .nil (.cmp2 .le .le (.idx (.bor 1) (.cst (.int 2))) (.var 0) (.idx (.bor 1) (.cst (.int 3)))))) .nil))) (.cons (.ret (.cst (.bool false))) .nil) .nil) (.cons (.ret (.and (.cons (.cmp .eq .nul (.bor 5)) (.cons (.or (.cons (.isN false (.bor 6)) (.cons (.cmp .le .nul (.bor 6)) .nil))) .nil)))) .nil))) .nil) (.cons (.ife (.call 4 (.cons (.var 2) (.cons (.cst (.str "crowd")) (.cons (.cst (.int 2)) .nil)))) (.cons (.ret (.and (.cons (.call 5 (.cons (.idx (.bor 2) (.cst (.int 1))) (.cons (.var 3) .nil))) (.cons (.call 16 (.cons (.var 4) (.cons (.var 5) (.cons (.idx (.bor 2) (.cst (.int 1))) .nil)))) .nil)))) .nil) .nil) (.cons (.ife (.or (.cons (.isN false (.bor 6)) (.cons (.not (.call 4 (.cons (.var 2) (.cons (.cst (.str "prices")) (.cons (.cst (.int 2)) .nil))))) (.cons (.not (.call 2 (.cons (.idx (.bor 2) (.cst (.int 1))) (.cons (.var 3) .nil)))) .nil)))) (.cons (.ret (.cst (.bool false))) .nil) .nil) (.cons (.ret (.cmp .gt .nul (.bor 6))) .nil)))))
def f_Task_judge : Fn := ⟨3, 8, [0], b_Task_judge⟩
def b_is_cut : Ss := (.cons (.ret (.and (.cons (.call 5 (.cons (.var 4) (.cons (.idx (.bor 0) (.cst (.int 0))) .nil))) (.cons (.cmp .inn (.bor 1) (.bor 4)) (.cons (.cmp .notIn (.bor 2) (.bor 4)) (.cons (.cmp .lt (.call 7 (.cons (.var 0) (.cons (.var 4) .nil))) (.bor 3)) .nil)))))) .nil)
def f_is_cut : Fn := ⟨5, 5, [], b_is_cut⟩
def b_Flow_judge : Ss := (.cons (.unp (.cons (.nm 3) (.cons (.nm 4) (.cons (.nm 5) (.t1 (.nm 6))))) (.var 1)) (.cons (.ife (.call 4 (.cons (.var 2) (.cons (.cst (.str "flow")) (.cons (.cst (.int 2)) .nil)))) (.cons (.ret (.and (.cons .nul (.cons (.cmp .ge .nul (.bor 6)) .nil)))) .nil) .nil) (.cons (.ret (.and (.cons (.call 4 (.cons (.var 2) (.cons (.cst (.str "cut")) (.cons (.cst (.int 2)) .nil)))) (.cons (.call 18 (.cons (.var 3) (.cons (.var 4) (.cons (.var 5) (.cons (.var 6) (.cons (.idx (.bor 2) (.cst (.int 1))) .nil)))))) .nil)))) .nil)))
def f_Flow_judge : Fn := ⟨3, 7, [0], b_Flow_judge⟩
def b_Need_judge : Ss := (.cons (.unp (.cons (.cons (.nm 3) (.t1 (.nm 4))) (.t1 (.nm 5))) (.var 1)) (.cons (.ife (.call 4 (.cons (.var 2) (.cons (.cst (.str "crowd")) (.cons (.cst (.int 2)) .nil)))) (.cons (.ret (.and (.cons (.call 5 (.cons (.idx (.bor 2) (.cst (.int 1))) (.cons (.var 3) .nil))) (.cons (.call 16 (.cons (.var 4) (.cons (.var 5) (.cons (.idx (.bor 2) (.cst (.int 1))) .nil)))) .nil)))) .nil) .nil) (.cons (.ife (.or (.cons (.not (.call 4 (.cons (.var 2) (.cons (.cst (.str "row")) (.cons (.cst (.int 2)) .nil))))) (.cons (.not (.call 2 (.cons (.idx (.bor 2) (.cst (.int 1))) (.cons (.bi .len (.bor 4)) .nil)))) .nil))) (.cons (.ret (.cst (.bool false))) .nil) .nil) (.cons (.set 6 (.bin .mul (.lst (.cons (.cst (.int 0)) .nil)) (.bor 3))) (.cons (.forr (.cons (.nm 7) (.t1 (.nm 8))) (.zip (.bor 4) (.idx (.bor 2) (.cst (.int 1)))) (.cons (.ife (.not (.cmp2 .le .le (.idx (.bor 7) (.cst (.int 2))) (.var 8) (.idx (.bor 7) (.cst (.int 3))))) (.cons (.ret (.cst (.bool false))) .nil) .nil) (.cons (.augi 6 .sub (.idx (.bor 7) (.cst (.int 0))) (.var 8)) (.cons (.augi 6 .add (.idx (.bor 7) (.cst (.int 1))) (.var 8)) .nil)))) (.cons (.ret (.cmp .eq (.bi .tuple (.bor 6)) (.bor 5))) .nil))))))
def f_Need_judge : Fn := ⟨3, 9, [0], b_Need_judge⟩
def b_least_product : Ss := (.cons (.par [3, 4] (.cons (.call 12 (.cons (.tup (.cons (.var 0) (.cons (.cst (.int 1)) .nil))) (.cons (.var 2) .nil))) (.cons (.call 12 (.cons (.tup (.cons (.var 1) (.cons (.cst (.int 1)) .nil))) (.cons (.var 2) .nil))) .nil))) (.cons (.ret (.ife (.call 13 (.cons (.var 3) (.cons (.var 4) .nil))) (.var 3) (.var 4))) .nil))
def f_least_product : Fn := ⟨3, 5, [], b_least_product⟩
def b_dot : Ss := (.cons (.ret (.call 14 (.cons (.lc [2, 3] (.cons (.nm 2) (.t1 (.nm 3))) (.zip (.bor 0) (.bor 1)) (.cons (.cmp .ne (.bor 2) (.cst (.int 0))) .nil) (.call 12 (.cons (.tup (.cons (.var 2) (.cons (.cst (.int 1)) .nil))) (.cons (.var 3) .nil)))) .nil))) .nil)
def f_dot : Fn := ⟨2, 4, [], b_dot⟩
def b_Linear_judge : Ss := (.cons (.unp (.cons (.nm 3) (.cons (.nm 4) (.cons (.nm 5) (.cons (.nm 6) (.cons (.nm 7) (.t1 (.nm 8))))))) (.var 1)) (.cons (.ife (.call 4 (.cons (.var 2) (.cons (.cst (.str "point")) (.cons (.cst (.int 2)) .nil)))) (.cons (.ret .nul) .nil) .nil) (.cons (.ife (.or (.cons (.not (.call 4 (.cons (.var 2) (.cons (.cst (.str "weights")) (.cons (.cst (.int 3)) .nil))))) (.cons (.not (.call 15 (.cons (.idx (.bor 2) (.cst (.int 1))) (.cons (.bi .len (.bor 3)) .nil)))) (.cons (.not (.call 8 (.cons (.idx (.bor 2) (.cst (.int 2))) .nil))) .nil)))) (.cons (.ret (.cst (.bool false))) .nil) .nil) (.cons (.set 9 (.idx (.bor 2) (.cst (.int 2)))) (.cons (.ife (.or (.cons (.cmp .lt (.idx (.bor 9) (.cst (.int 0))) (.cst (.int 0))) (.cons (.and (.cons (.isN false (.bor 8)) (.cons (.cmp .ne (.idx (.bor 9) (.cst (.int 0))) (.cst (.int 0))) .nil))) .nil))) (.cons (.ret (.cst (.bool false))) .nil) .nil) (.cons (.set 10 (.call 22 (.cons (.var 4) (.cons (.idx (.bor 2) (.cst (.int 1))) .nil)))) (.cons (.forr (.nm 11) (.rng (.bi .len (.bor 5))) (.cons (.set 12 (.call 11 (.cons (.call 12 (.cons (.var 9) (.cons (.tup (.cons (.idx (.bor 7) (.var 11)) (.cons (.cst (.int 1)) .nil))) .nil))) (.cons (.call 22 (.cons (.lc [13] (.nm 13) (.dat (.bor 3)) .nil (.idx (.bor 13) (.var 11))) (.cons (.idx (.bor 2) (.cst (.int 1))) .nil))) .nil)))) (.cons (.set 10 (.call 10 (.cons (.var 10) (.cons (.call 21 (.cons (.idx (.bor 5) (.var 11)) (.cons (.idx (.bor 6) (.var 11)) (.cons (.var 12) .nil)))) .nil)))) .nil))) (.cons (.ret (.call 13 (.cons (.ife (.isN false (.bor 8)) (.tup (.cons (.cst (.int 0)) (.cons (.cst (.int 1)) .nil))) (.call 12 (.cons (.var 9) (.cons (.tup (.cons (.var 8) (.cons (.cst (.int 1)) .nil))) .nil)))) (.cons (.var 10) .nil)))) .nil))))))))
def f_Linear_judge : Fn := ⟨3, 14, [0], b_Linear_judge⟩
def b_far_from : Ss := (.cons (.set 4 (.dct1 (.var 3) (.tup (.cons (.cst (.int 0)) (.cons (.cst (.int 1)) .nil))))) (.cons (.forr (.nm 5) (.rng (.var 0)) (.cons (.forr (.cons (.cons (.nm 6) (.cons (.nm 7) (.t1 (.nm 8)))) (.t1 (.nm 9))) (.zip (.bor 1) (.bor 2)) (.cons (.forr (.cons (.nm 10) (.t1 (.nm 11))) (.dat (.tup (.cons (.tup (.cons (.var 6) (.cons (.var 7) .nil))) (.cons (.tup (.cons (.var 7) (.cons (.var 6) .nil))) .nil)))) (.cons (.ife (.inD false (.var 10) 4) (.cons (.set 12 (.call 10 (.cons (.getD 4 (.var 10)) (.cons (.var 9) .nil)))) (.cons (.ife (.or (.cons (.inD true (.var 11) 4) (.cons (.call 13 (.cons (.var 12) (.cons (.getD 4 (.var 11)) .nil))) .nil))) (.cons (.dput 4 (.var 11) (.var 12)) .nil) .nil) .nil)) .nil) .nil)) .nil)) .nil)) (.cons (.ret (.lc [13] (.nm 13) (.rng (.var 0)) .nil (.getDN 4 (.var 13)))) .nil)))
def f_far_from : Fn := ⟨4, 14, [], b_far_from⟩
def b_Orders_judge : Ss := (.cons (.unp (.cons (.nm 3) (.cons (.nm 4) (.t1 (.nm 5)))) (.var 1)) (.cons (.ife (.call 4 (.cons (.var 2) (.cons (.cst (.str "shares")) (.cons (.cst (.int 2)) .nil)))) (.cons (.ret .nul) .nil) .nil) (.cons (.ife (.or (.cons (.not (.call 4 (.cons (.var 2) (.cons (.cst (.str "lengths")) (.cons (.cst (.int 2)) .nil))))) (.cons (.not (.call 15 (.cons (.idx (.bor 2) (.cst (.int 1))) (.cons (.bi .len (.bor 4)) .nil)))) .nil))) (.cons (.ret (.cst (.bool false))) .nil) .nil) (.cons (.ife (.gen .any ["one"] [none] [0] (.nm 0) (.dat (.idx (.bor 2) (.cst (.int 1)))) .nil (.cmp .lt (.idx (.bor 0) (.cst (.int 0))) (.cst (.int 0)))) (.cons (.ret (.cst (.bool false))) .nil) .nil) (.cons (.set 6 (.call 14 (.cons (.gen .tuple ["tie", "one"] [none, none] [0, 1] (.cons (.nm 0) (.t1 (.nm 1))) (.zip (.bor 4) (.idx (.bor 2) (.cst (.int 1)))) .nil (.call 12 (.cons (.tup (.cons (.idx (.bor 0) (.cst (.int 2))) (.cons (.cst (.int 1)) .nil))) (.cons (.var 1) .nil)))) .nil))) (.cons (.forr (.cons (.nm 7) (.cons (.nm 8) (.t1 (.nm 9)))) (.dat (.bor 5)) (.cons (.set 10 (.idx (.call 24 (.cons (.var 3) (.cons (.var 4) (.cons (.idx (.bor 2) (.cst (.int 1))) (.cons (.var 7) .nil))))) (.var 8))) (.cons (.ife (.isN false (.bor 10)) (.cons (.ret (.cst (.bool true))) .nil) .nil) (.cons (.set 6 (.call 11 (.cons (.var 6) (.cons (.call 12 (.cons (.tup (.cons (.var 9) (.cons (.cst (.int 1)) .nil))) (.cons (.var 10) .nil))) .nil)))) .nil)))) (.cons (.ret (.cmp .lt (.idx (.bor 6) (.cst (.int 0))) (.cst (.int 0)))) .nil)))))))
def f_Orders_judge : Fn := ⟨3, 11, [0], b_Orders_judge⟩
def b_judge : Ss := (.cons (.ret (.kcall "kind_of" "judge" (.idx (.bor 0) (.cst (.int 0))) [("flow", ("Flow", 19)), ("need", ("Need", 20)), ("orders", ("Orders", 25)), ("task", ("Task", 17)), ("linear", ("Linear", 23))] (.cons (.slc (.bor 0) (.cst (.int 1)) .nul) (.cons (.var 1) .nil)))) .nil)
def f_judge : Fn := ⟨2, 2, [], b_judge⟩
def b__law_same : Ss := (.cons (.ife (.or (.cons (.isi .tuple (.bor 1)) (.cons (.isi .list (.bor 1)) .nil))) (.cons (.ife (.or (.cons (.cmp .ne (.isi .tuple (.bor 1)) (.isi .tuple (.bor 0))) (.cons (.cmp .ne (.isi .list (.bor 1)) (.isi .list (.bor 0))) .nil))) (.cons (.ret (.cst (.bool false))) .nil) .nil) (.cons (.ife (.cmp .ne (.bi .len (.bor 0)) (.bi .len (.bor 1))) (.cons (.ret (.cst (.bool false))) .nil) .nil) (.cons (.ret (.cmp .eq (.bi .len (.lc [2] (.nm 2) (.rng (.bi .len (.bor 1))) (.cons (.not (.call 27 (.cons (.idx (.bor 0) (.var 2)) (.cons (.idx (.bor 1) (.var 2)) .nil)))) .nil) (.var 2))) (.cst (.int 0)))) .nil))) .nil) (.cons (.ife (.isN false (.bor 1)) (.cons (.ret (.isN false (.bor 0))) .nil) .nil) (.cons (.ife (.or (.cons (.isi .bool (.bor 1)) (.cons (.isi .bool (.bor 0)) .nil))) (.cons (.ret (.and (.cons (.isi .bool (.bor 1)) (.cons (.isi .bool (.bor 0)) (.cons (.cmp .eq (.bor 0) (.bor 1)) .nil))))) .nil) .nil) (.cons (.ife (.isi .int (.bor 1)) (.cons (.ret (.and (.cons (.isi .int (.bor 0)) (.cons (.cmp .eq (.bor 0) (.bor 1)) .nil)))) .nil) .nil) (.cons (.ret (.and (.cons (.isi .str (.bor 0)) (.cons (.cmp .eq (.bor 0) (.bor 1)) .nil)))) .nil)))))
def f__law_same : Fn := ⟨2, 3, [], b__law_same⟩
def b__law_pool : Ss := (.cons (.set 1 (.cst (.int 7))) (.cons (.forr (.nm 2) (.dat (.slc (.bor 0) .nul (.cst (.int 63)))) (.cons (.set 1 (.bin .mod (.bi .int (.bin .add (.bin .mul (.bor 1) (.cst (.int 31))) (.bor 2))) (.cst (.int 1000003)))) .nil)) (.cons (.ret (.lst (.cons (.bi .list (.bor 0)) (.cons (.cst (.int 0)) (.cons (.cst (.int 0)) (.cons (.cst (.int 0)) (.cons (.var 1) .nil))))))) .nil)))
def f__law_pool : Fn := ⟨1, 3, [], b__law_pool⟩
def b__law_spread : Ss := (.cons (.set 1 (.bin .mod (.bi .int (.bor 0)) (.cst (.int 2147483647)))) (.cons (.set 2 (.cst (.int 1))) (.cons (.forr (.nm 3) (.rng (.cst (.int 4))) (.cons (.set 1 (.bin .mod (.bi .int (.bin .add (.bin .add (.bin .mul (.bor 1) (.cst (.int 48271))) (.cst (.int 12345))) (.bor 3))) (.cst (.int 2147483647)))) (.cons (.set 2 (.bin .add (.bin .mul (.bor 2) (.cst (.int 2147483647))) (.bor 1))) .nil))) (.cons (.ret (.mov 2)) .nil))))
def f__law_spread : Fn := ⟨1, 4, [], b__law_spread⟩
def b__law_draw : Ss := (.cons (.ife (.and (.cons (.cmp .le (.idx (.bor 0) (.cst (.int 2))) (.cst (.int 0))) (.cons (.cmp .lt (.idx (.bor 0) (.cst (.int 1))) (.bi .len (.idx (.bor 0) (.cst (.int 0))))) .nil))) (.cons (.set 2 (.idx (.idx (.bor 0) (.cst (.int 0))) (.idx (.bor 0) (.cst (.int 1))))) (.cons (.seti 0 (.cst (.int 1)) (.bin .add (.idx (.bor 0) (.cst (.int 1))) (.cst (.int 1)))) (.cons (.seti 0 (.cst (.int 2)) (.var 2)) (.cons (.ife (.cmp .lt (.bor 2) (.cst (.int 1000000000000000000))) (.cons (.seti 0 (.cst (.int 2)) (.call 29 (.cons (.var 2) .nil))) .nil) .nil) .nil)))) .nil) (.cons (.seti 0 (.cst (.int 3)) (.bin .add (.idx (.bor 0) (.cst (.int 3))) (.cst (.int 1)))) (.cons (.ife (.cmp .le (.idx (.bor 0) (.cst (.int 2))) (.cst (.int 0))) (.cons (.set 3 (.bin .mod (.bi .int (.bin .add (.bin .add (.bin .mul (.idx (.bor 0) (.cst (.int 4))) (.cst (.int 48271))) (.bin .mul (.idx (.bor 0) (.cst (.int 3))) (.cst (.int 69621)))) (.cst (.int 1)))) (.cst (.int 2147483647)))) (.cons (.set 3 (.bin .mod (.bi .int (.bin .add (.bin .mul (.bor 3) (.cst (.int 16807))) (.idx (.bor 0) (.cst (.int 3))))) (.cst (.int 2147483629)))) (.cons (.ret (.bin .mod (.bin .fdiv (.bor 3) (.cst (.int 5))) (.bor 1))) .nil))) .nil) (.cons (.set 4 (.bin .mod (.bi .int (.idx (.bor 0) (.cst (.int 2)))) (.bor 1))) (.cons (.seti 0 (.cst (.int 2)) (.bin .fdiv (.idx (.bor 0) (.cst (.int 2))) (.bor 1))) (.cons (.ret (.mov 4)) .nil))))))
def f__law_draw : Fn := ⟨2, 5, [0], b__law_draw⟩
def b__law_subsets : Ss := (.cons (.set 1 (.lst (.cons (.tup .nil) .nil))) (.cons (.forr (.nm 2) (.rng (.var 0)) (.cons (.set 1 (.bin .add (.bor 1) (.lc [3] (.nm 3) (.dat (.bor 1)) .nil (.bin .add (.bor 3) (.tup (.cons (.var 2) .nil)))))) .nil)) (.cons (.ret (.mov 1)) .nil)))
def f__law_subsets : Fn := ⟨1, 4, [], b__law_subsets⟩
def b__law_net : Ss := (.cons (.set 3 (.bin .add (.cst (.int 2)) (.call 30 (.cons (.bor 0) (.cons (.bin .sub (.bor 1) (.cst (.int 1))) .nil))))) (.cons (.set 4 (.idx (.tup (.cons (.cst (.int 2)) (.cons (.cst (.int 6)) (.cons (.cst (.int 101)) .nil)))) (.call 30 (.cons (.bor 0) (.cons (.cst (.int 3)) .nil))))) (.cons (.set 5 (.lst .nil)) (.cons (.forr (.nm 6) (.rng (.call 30 (.cons (.bor 0) (.cons (.bin .add (.bor 2) (.cst (.int 1))) .nil)))) (.cons (.set 7 (.call 30 (.cons (.bor 0) (.cons (.var 3) .nil)))) (.cons (.set 8 (.bin .mod (.bin .add (.bin .add (.bor 7) (.cst (.int 1))) (.call 30 (.cons (.bor 0) (.cons (.bin .sub (.bor 3) (.cst (.int 1))) .nil)))) (.bor 3))) (.cons (.app 5 (.tup (.cons (.var 7) (.cons (.var 8) (.cons (.call 30 (.cons (.bor 0) (.cons (.var 4) .nil))) .nil))))) .nil)))) (.cons (.ret (.tup (.cons (.var 3) (.cons (.bi .tuple (.bor 5)) .nil)))) .nil)))))
def f__law_net : Fn := ⟨3, 9, [0], b__law_net⟩
def b__law_ends : Ss := (.cons (.set 2 (.call 30 (.cons (.bor 0) (.cons (.var 1) .nil)))) (.cons (.ret (.tup (.cons (.var 2) (.cons (.bin .mod (.bin .add (.bin .add (.bor 2) (.cst (.int 1))) (.call 30 (.cons (.bor 0) (.cons (.bin .sub (.bor 1) (.cst (.int 1))) .nil)))) (.bor 1)) .nil)))) .nil))
def f__law_ends : Fn := ⟨2, 3, [0], b__law_ends⟩
def b__law_orders : Ss := (.cons (.set 1 (.bin .add (.cst (.int 2)) (.call 30 (.cons (.bor 0) (.cons (.cst (.int 3)) .nil))))) (.cons (.set 2 (.lst .nil)) (.cons (.forr (.nm 3) (.rng (.call 30 (.cons (.bor 0) (.cons (.cst (.int 5)) .nil)))) (.cons (.set 4 (.call 30 (.cons (.bor 0) (.cons (.bin .sub (.bor 1) (.cst (.int 1))) .nil)))) (.cons (.app 2 (.tup (.cons (.var 4) (.cons (.bin .add (.bin .add (.bor 4) (.cst (.int 1))) (.call 30 (.cons (.bor 0) (.cons (.bin .sub (.bin .sub (.bor 1) (.cst (.int 1))) (.bor 4)) .nil)))) (.cons (.call 30 (.cons (.bor 0) (.cons (.cst (.int 5)) .nil))) .nil))))) .nil))) (.cons (.set 5 (.lst .nil)) (.cons (.forr (.nm 3) (.rng (.bin .add (.cst (.int 1)) (.call 30 (.cons (.bor 0) (.cons (.cst (.int 3)) .nil))))) (.cons (.unp (.cons (.nm 6) (.t1 (.nm 7))) (.call 33 (.cons (.bor 0) (.cons (.var 1) .nil)))) (.cons (.app 5 (.tup (.cons (.var 6) (.cons (.var 7) (.cons (.bin .add (.cst (.int 1)) (.call 30 (.cons (.bor 0) (.cons (.cst (.int 4)) .nil)))) .nil))))) .nil))) (.cons (.ret (.tup (.cons (.var 1) (.cons (.bi .tuple (.bor 2)) (.cons (.bi .tuple (.bor 5)) .nil))))) .nil))))))
def f__law_orders : Fn := ⟨1, 8, [0], b__law_orders⟩
def b_law : Ss := (.cons (.set 1 (.call 28 (.cons (.var 0) .nil))) (.cons (.set 2 (.call 32 (.cons (.bor 1) (.cons (.cst (.int 4)) (.cons (.cst (.int 6)) .nil))))) (.cons (.unp (.cons (.nm 3) (.t1 (.nm 4))) (.var 2)) (.cons (.unp (.cons (.nm 5) (.t1 (.nm 6))) (.call 33 (.cons (.bor 1) (.cons (.var 3) .nil)))) (.cons (.set 7 (.bin .add (.cst (.int 1)) (.call 30 (.cons (.bor 1) (.cons (.cst (.int 8)) .nil))))) (.cons (.set 8 (.bi .tuple (.lc [9] (.nm 9) (.rng (.var 3)) .nil (.ife (.cmp .eq (.bor 9) (.bor 6)) (.var 7) (.ife (.cmp .eq (.bor 9) (.bor 5)) (.bin .sub (.cst (.int 0)) (.bor 7)) (.cst (.int 0))))))) (.cons (.set 10 (.tup (.cons (.var 3) (.cons (.bi .tuple (.lc [11, 12, 13] (.cons (.nm 11) (.cons (.nm 12) (.t1 (.nm 13)))) (.dat (.bor 4)) .nil (.tup (.cons (.var 11) (.cons (.var 12) (.cons (.cst (.int 0)) (.cons (.var 13) .nil))))))) .nil)))) (.cons (.set 14 (.tup (.cons (.cst (.str "task")) (.cons (.var 3) (.cons (.bi .tuple (.lc [11, 12, 13] (.cons (.nm 11) (.cons (.nm 12) (.t1 (.nm 13)))) (.dat (.bor 4)) .nil (.tup (.cons (.var 11) (.cons (.var 12) (.cons (.cst (.int 0)) (.cons (.var 13) (.cons (.cst (.int 0)) .nil)))))))) (.cons (.var 8) (.cons (.cst .none) .nil))))))) (.cons (.set 15 (.bi .tuple (.lc [9] (.nm 9) (.rng (.var 3)) .nil (.bi .tuple (.lc [11, 12, 13] (.cons (.nm 11) (.cons (.nm 12) (.t1 (.nm 13)))) (.dat (.bor 4)) .nil (.ife (.cmp .eq (.bor 12) (.bor 9)) (.cst (.int 1)) (.ife (.cmp .eq (.bor 11) (.bor 9)) (.neg (.cst (.int 1))) (.cst (.int 0))))))))) (.cons (.forr (.nm 16) (.dat (.call 31 (.cons (.var 3) .nil))) (.cons (.set 17 (.bi .tuple (.lc [9] (.nm 9) (.rng (.var 3)) (.cons (.cmp .notIn (.bor 9) (.bor 16)) .nil) (.var 9)))) (.cons (.set 18 (.call 26 (.cons (.tup (.cons (.cst (.str "flow")) (.cons (.var 2) (.cons (.var 5) (.cons (.var 6) (.cons (.var 7) .nil)))))) (.cons (.tup (.cons (.cst (.str "cut")) (.cons (.var 16) .nil))) .nil)))) (.cons (.set 19 (.call 26 (.cons (.tup (.cons (.cst (.str "need")) (.cons (.var 10) (.cons (.var 8) .nil)))) (.cons (.tup (.cons (.cst (.str "crowd")) (.cons (.var 17) .nil))) .nil)))) (.cons (.ife (.or (.cons (.and (.cons (.cmp .inn (.bor 5) (.bor 16)) (.cons (.cmp .notIn (.bor 6) (.bor 16)) (.cons (.cmp .ne (.bor 18) (.bor 19)) .nil)))) (.cons (.and (.cons (.var 18) (.cons (.not (.var 19)) .nil))) (.cons (.not (.call 27 (.cons (.call 26 (.cons (.var 14) (.cons (.tup (.cons (.cst (.str "crowd")) (.cons (.var 17) .nil))) .nil))) (.cons (.var 19) .nil)))) .nil)))) (.cons (.ret (.cst (.bool false))) .nil) .nil) (.cons (.ife (.cmp .gt (.bi .len (.bor 4)) (.cst (.int 0))) (.cons (.set 20 (.tup (.cons (.cst (.str "linear")) (.cons (.var 15) (.cons (.var 8) (.cons (.bin .mul (.tup (.cons (.cst (.int 0)) .nil)) (.bi .len (.bor 4))) (.cons (.bi .tuple (.lc [11, 12, 13] (.cons (.nm 11) (.cons (.nm 12) (.t1 (.nm 13)))) (.dat (.bor 4)) .nil (.var 13))) (.cons (.bin .mul (.tup (.cons (.cst (.int 0)) .nil)) (.bi .len (.bor 4))) (.cons (.cst .none) .nil))))))))) (.cons (.set 21 (.bi .tuple (.lc [9] (.nm 9) (.rng (.var 3)) .nil (.tup (.cons (.ife (.cmp .inn (.bor 9) (.bor 17)) (.cst (.int 1)) (.cst (.int 0))) (.cons (.cst (.int 1)) .nil)))))) (.cons (.ife (.cmp .ne (.call 26 (.cons (.var 20) (.cons (.tup (.cons (.cst (.str "weights")) (.cons (.var 21) (.cons (.tup (.cons (.cst (.int 0)) (.cons (.cst (.int 1)) .nil))) .nil)))) .nil))) (.bor 19)) (.cons (.ret (.cst (.bool false))) .nil) .nil) .nil))) .nil) .nil)))))) (.cons (.unp (.cons (.nm 3) (.cons (.nm 22) (.t1 (.nm 23)))) (.call 34 (.cons (.bor 1) .nil))) (.cons (.forr (.nm 16) (.dat (.call 31 (.cons (.var 3) .nil))) (.cons (.set 24 (.bi .tuple (.lc [11, 12, 13] (.cons (.nm 11) (.cons (.nm 12) (.t1 (.nm 13)))) (.dat (.bor 22)) .nil (.ife (.cmp .ne (.cmp .inn (.bor 11) (.bor 16)) (.cmp .inn (.bor 12) (.bor 16))) (.tup (.cons (.cst (.int 1)) (.cons (.cst (.int 1)) .nil))) (.tup (.cons (.cst (.int 0)) (.cons (.cst (.int 1)) .nil))))))) (.cons (.set 25 (.bi .sum (.lc [26, 9, 27] (.cons (.nm 26) (.cons (.nm 9) (.t1 (.nm 27)))) (.dat (.bor 23)) (.cons (.cmp .ne (.cmp .inn (.bor 26) (.bor 16)) (.cmp .inn (.bor 9) (.bor 16))) .nil) (.var 27)))) (.cons (.set 28 (.bi .sum (.lc [11, 12, 13] (.cons (.nm 11) (.cons (.nm 12) (.t1 (.nm 13)))) (.dat (.bor 22)) (.cons (.cmp .ne (.cmp .inn (.bor 11) (.bor 16)) (.cmp .inn (.bor 12) (.bor 16))) .nil) (.var 13)))) (.cons (.ife (.and (.cons (.cmp .gt (.bor 25) (.bor 28)) (.cons (.not (.call 26 (.cons (.tup (.cons (.cst (.str "orders")) (.cons (.var 3) (.cons (.var 22) (.cons (.var 23) .nil))))) (.cons (.tup (.cons (.cst (.str "lengths")) (.cons (.var 24) .nil))) .nil)))) .nil))) (.cons (.ret (.cst (.bool false))) .nil) .nil) .nil))))) (.cons (.ret (.cst (.bool true))) .nil)))))))))))))
def f_law : Fn := ⟨1, 29, [], b_law⟩
def tab : List Fn := [f_is_integer, f_is_within, f_is_row, f_is_row_within, f_is_worded, f_is_places, f_is_ascending, f_crossing, f_is_quotient, f_quotient, f_plus, f_minus, f_times, f_is_less, f_total, f_is_quotient_row, f_is_crowd, f_Task_judge, f_is_cut, f_Flow_judge, f_Need_judge, f_least_product, f_dot, f_Linear_judge, f_far_from, f_Orders_judge, f_judge, f__law_same, f__law_pool, f__law_spread, f__law_draw, f__law_subsets, f__law_net, f__law_ends, f__law_orders]
theorem r_is_integer (n : Nat) (xs : List O) : run tab (n + 1) 0 xs = callF f_is_integer (run tab n) xs := rfl
theorem r_is_within (n : Nat) (xs : List O) : run tab (n + 1) 1 xs = callF f_is_within (run tab n) xs := rfl
theorem r_is_row (n : Nat) (xs : List O) : run tab (n + 1) 2 xs = callF f_is_row (run tab n) xs := rfl
theorem r_is_row_within (n : Nat) (xs : List O) : run tab (n + 1) 3 xs = callF f_is_row_within (run tab n) xs := rfl
theorem r_is_worded (n : Nat) (xs : List O) : run tab (n + 1) 4 xs = callF f_is_worded (run tab n) xs := rfl
theorem r_is_places (n : Nat) (xs : List O) : run tab (n + 1) 5 xs = callF f_is_places (run tab n) xs := rfl
theorem r_is_ascending (n : Nat) (xs : List O) : run tab (n + 1) 6 xs = callF f_is_ascending (run tab n) xs := rfl
theorem r_crossing (n : Nat) (xs : List O) : run tab (n + 1) 7 xs = callF f_crossing (run tab n) xs := rfl
theorem r_is_quotient (n : Nat) (xs : List O) : run tab (n + 1) 8 xs = callF f_is_quotient (run tab n) xs := rfl
theorem r_quotient (n : Nat) (xs : List O) : run tab (n + 1) 9 xs = callF f_quotient (run tab n) xs := rfl
theorem r_plus (n : Nat) (xs : List O) : run tab (n + 1) 10 xs = callF f_plus (run tab n) xs := rfl
theorem r_minus (n : Nat) (xs : List O) : run tab (n + 1) 11 xs = callF f_minus (run tab n) xs := rfl
theorem r_times (n : Nat) (xs : List O) : run tab (n + 1) 12 xs = callF f_times (run tab n) xs := rfl
theorem r_is_less (n : Nat) (xs : List O) : run tab (n + 1) 13 xs = callF f_is_less (run tab n) xs := rfl
theorem r_total (n : Nat) (xs : List O) : run tab (n + 1) 14 xs = callF f_total (run tab n) xs := rfl
theorem r_is_quotient_row (n : Nat) (xs : List O) : run tab (n + 1) 15 xs = callF f_is_quotient_row (run tab n) xs := rfl
theorem r_is_crowd (n : Nat) (xs : List O) : run tab (n + 1) 16 xs = callF f_is_crowd (run tab n) xs := rfl
theorem r_Task_judge (n : Nat) (xs : List O) : run tab (n + 1) 17 xs = callF f_Task_judge (run tab n) xs := rfl
theorem r_is_cut (n : Nat) (xs : List O) : run tab (n + 1) 18 xs = callF f_is_cut (run tab n) xs := rfl
theorem r_Flow_judge (n : Nat) (xs : List O) : run tab (n + 1) 19 xs = callF f_Flow_judge (run tab n) xs := rfl
theorem r_Need_judge (n : Nat) (xs : List O) : run tab (n + 1) 20 xs = callF f_Need_judge (run tab n) xs := rfl
theorem r_least_product (n : Nat) (xs : List O) : run tab (n + 1) 21 xs = callF f_least_product (run tab n) xs := rfl
theorem r_dot (n : Nat) (xs : List O) : run tab (n + 1) 22 xs = callF f_dot (run tab n) xs := rfl
theorem r_Linear_judge (n : Nat) (xs : List O) : run tab (n + 1) 23 xs = callF f_Linear_judge (run tab n) xs := rfl
theorem r_far_from (n : Nat) (xs : List O) : run tab (n + 1) 24 xs = callF f_far_from (run tab n) xs := rfl
theorem r_Orders_judge (n : Nat) (xs : List O) : run tab (n + 1) 25 xs = callF f_Orders_judge (run tab n) xs := rfl
theorem r_judge (n : Nat) (xs : List O) : run tab (n + 1) 26 xs = callF f_judge (run tab n) xs := rfl
theorem r__law_same (n : Nat) (xs : List O) : run tab (n + 1) 27 xs = callF f__law_same (run tab n) xs := rfl
theorem r__law_pool (n : Nat) (xs : List O) : run tab (n + 1) 28 xs = callF f__law_pool (run tab n) xs := rfl
theorem r__law_spread (n : Nat) (xs : List O) : run tab (n + 1) 29 xs = callF f__law_spread (run tab n) xs := rfl
theorem r__law_draw (n : Nat) (xs : List O) : run tab (n + 1) 30 xs = callF f__law_draw (run tab n) xs := rfl
theorem r__law_subsets (n : Nat) (xs : List O) : run tab (n + 1) 31 xs = callF f__law_subsets (run tab n) xs := rfl
theorem r__law_net (n : Nat) (xs : List O) : run tab (n + 1) 32 xs = callF f__law_net (run tab n) xs := rfl
theorem r__law_ends (n : Nat) (xs : List O) : run tab (n + 1) 33 xs = callF f__law_ends (run tab n) xs := rfl
theorem r__law_orders (n : Nat) (xs : List O) : run tab (n + 1) 34 xs = callF f__law_orders (run tab n) xs := rfl
end K57P
set_option linter.all false
set_option maxRecDepth 100000
set_option maxHeartbeats 1000000
namespace K57P
open PySem MP
def isInt : D → Bool
  | .int _ => true
  | _ => false
theorem is_integer (n : Nat) (d : D) : run tab (n + 1) 0 [dat d] = some ([none], dat (.bool (isInt d))) := by
  rw [r_is_integer]
  cases d <;> simp [f_is_integer, callF, b_is_integer, getB, B.toD, lift, O.toD, isiD, boolD, stillM, isInt]
def isRow (d : D) (m : Int) : Bool := match d with
  | .tuple xs => decide ((xs.length : Int) = m) && xs.all isInt
  | _ => false
theorem trn_int (n : Nat) (x : D) : trnG (run tab (n + 1)) (.nm 0) .nil (.call 0 (.cons (.var 0) .nil)) [none] x = some (some (.bool (isInt x))) := by
  simp [trnG, MP.bind, putO, getB, B.toD, lift, O.toD, stillM, evas_of, is_integer, putBack]
theorem is_row (n : Nat) (d : D) (m : Int) : run tab (n + 2) 2 [dat d, dat (.int m)] = some ([none, none], dat (.bool (isRow d m))) := by
  rw [r_is_row]
  cases d with
  | tuple xs =>
    have hg := genAll_all (xs := xs) fun x _ => trn_int n x
    have hq : isRow (.tuple xs) m = (decide ((xs.length : Int) = m) && xs.all isInt) := rfl
    rw [hq]
    generalize xs.all isInt = q at hg
    by_cases h : (xs.length : Int) = m <;> cases q <;> simp [f_is_row, callF, b_is_row, getB, B.toD, lift, O.toD, isiD, boolD, stillM, evas_of, cmpD, biD, now, eqOk, PyData.eqv, capt, seqD, h, hg]
  | _ => simp [f_is_row, callF, b_is_row, getB, B.toD, lift, O.toD, isiD, boolD, stillM, evas_of, cmpD, isRow, biD, now, eqOk, PyData.eqv, capt, seqD]
theorem isRow_of (is : List Int) (m : Int) : isRow (.tuple (is.map .int)) m = decide ((is.length : Int) = m) := by
  have : (is.map PyData.int).all isInt = true := by
    rw [List.all_eq_true]
    intro x hx
    obtain ⟨i, _, rfl⟩ := List.mem_map.mp hx
    rfl
  show (decide (((is.map PyData.int).length : Int) = m) && (is.map PyData.int).all isInt) = _
  rw [this, List.length_map, Bool.and_true]
abbrev Arc := Nat × Nat × Int
def arcD (a : Arc) : D := .tuple [.int (a.1 : Int), .int (a.2.1 : Int), .int a.2.2]
def netD (n : Nat) (as : List Arc) : D := .tuple [.int (n : Int), .tuple (as.map arcD)]
def InNet (n : Nat) (as : List Arc) : Prop := ∀ a ∈ as, a.1 < n ∧ a.2.1 < n
theorem sl : sizeLine = 16777216 := by decide
theorem now_lst {xs : Ms} {d : D} {e : Env'} : now (.lst xs) d e = some d := rfl
theorem now_idx {a i : M} {d : D} {e : Env'} : now (.idx a i) d e = some d := rfl
def inS (sd : List Int) (i : Int) : Bool := (il sd).any fun z => PyData.eqv z (.int i)
theorem flat_il {sd : List Int} : (il sd).all flatD = true := by
  rw [List.all_eq_true]
  intro x hx
  obtain ⟨i, _, rfl⟩ := List.mem_map.mp hx
  rfl
theorem evi_rng_of {C : CallF} {a : M} {e e' : Env'} {n : Nat} (hn : n ≤ 1000) (h : lift (ev C a e) = some (.int (n : Int), e')) : evi C (.rng a) e = some (rngD 0 n, e') := by
  rw [evi_rng, h, Option.bind_some]
  show (if -(2 ^ 62) ≤ (n : Int) ∧ (n : Int) < 2 ^ 62 then some (rngD 0 (n : Int).toNat, e') else none) = _
  rw [if_pos ⟨by omega, by omega⟩, Int.toNat_natCast]
theorem rng_at {n i : Nat} {x : D} (h : (rngD 0 n)[i]? = some x) : i < n ∧ x = .int (i : Int) := by
  unfold rngD at h
  rw [List.getElem?_map] at h
  cases q : (List.range n)[i]? with
  | none => rw [q] at h; cases h
  | some z =>
    rw [q] at h
    have hz := List.getElem?_eq_some_iff.mp q
    obtain ⟨h1, h2⟩ := hz
    rw [List.getElem_range] at h2
    subst h2
    cases h
    rw [List.length_range] at h1
    exact ⟨h1, by show PyData.int (0 + (i : Int)) = _; rw [Int.zero_add]⟩
theorem rng_len {n : Nat} : (rngD 0 n).length = n := by simp [rngD]
theorem at_arcs {as : List Arc} {i : Nat} {a : Arc} (h : as[i]? = some a) : atD (as.map arcD) (i : Int) = some (arcD a) := atD_nat (by rw [List.getElem?_map, h]; rfl)
theorem at_il {r : List Int} {i : Nat} {x : Int} (h : r[i]? = some x) : atD (il r) (i : Int) = some (.int x) := atD_nat (by unfold il; rw [List.getElem?_map, h]; rfl)
def poolL (cells : List Int) (a b c s : Int) : List D := [.list (il cells), .int a, .int b, .int c, .int s]
def Pool (p : List D) : Prop := ∃ cells a b c s, p = poolL cells a b c s ∧ 0 ≤ a
theorem mulD {i j : Int} (h : -10000000000 ≤ j ∧ j ≤ 10000000000) : binD .mul (.int i) (.int j) = some (dat (.int (i * j))) := by
  show (if (-(2 ^ 64) < j ∧ j < 2 ^ 64) ∨ i.natAbs.log2 + j.natAbs.log2 < 1000000 then some (dat (.int (i * j))) else none) = _
  rw [if_pos (Or.inl ⟨by omega, by omega⟩)]
theorem modD {i j : Int} (h : 0 < j) : binD .mod (.int i) (.int j) = some (dat (.int (i % j))) := by
  show (if 0 < j then some (dat (.int (i % j))) else none) = _
  rw [if_pos h]
theorem fdivD {i j : Int} (h : 0 < j) (h2 : j ≤ 10000000000) : binD .fdiv (.int i) (.int j) = some (dat (.int (i / j))) := by
  have : j.natAbs.log2 < 9000 := by
    rw [Nat.log2_lt (by omega)]
    exact Nat.lt_of_lt_of_le (show j.natAbs < 2 ^ 64 by omega) (Nat.pow_le_pow_right (by decide) (by decide))
  show (if 0 < j ∧ j.natAbs.log2 < 9000 then some (dat (.int (i / j))) else none) = _
  rw [if_pos ⟨h, this⟩]
theorem addD {i j : Int} : binD .add (.int i) (.int j) = some (dat (.int (i + j))) := rfl
theorem subD {i j : Int} : binD .sub (.int i) (.int j) = some (dat (.int (i - j))) := rfl
theorem ix51 : L2.ixN 5 1 = some 1 := rfl
theorem ix52 : L2.ixN 5 2 = some 2 := rfl
theorem ix53 : L2.ixN 5 3 = some 3 := rfl
theorem spread (k : Nat) (x : Int) : ∃ y, run tab (k + 1) 29 [dat (.int x)] = some ([none], dat (.int y)) := by
  rw [r__law_spread]
  obtain ⟨bs, o, h, q⟩ := call_ex (f := f__law_spread) (C := run tab k) (xs := [dat (.int x)]) (Q := fun bs o => ∃ y, bs = [none] ∧ o = dat (.int y)) rfl (by
    refine Go.step (e' := [some (dat (.int x)), some (dat (.int (x % 2147483647))), none, none]) ?_ (Go.step (e' := [some (dat (.int x)), some (dat (.int (x % 2147483647))), some (dat (.int 1)), none]) ?_ (Go.forr (xs := rngD 0 4) (e1 := [some (dat (.int x)), some (dat (.int (x % 2147483647))), some (dat (.int 1)), none]) (fun _ e => ∃ a b o, e = [some (dat (.int x)), some (dat (.int a)), some (dat (.int b)), o]) ?_ ⟨_, _, _, rfl⟩ ?_ ?_))
    · simp -implicitDefEqProofs [getB, B.toD, lift, O.toD, now, putO, biD, modD, f__law_spread]
    · simp -implicitDefEqProofs [putO]
    · exact evi_rng_of (n := 4) (by omega) (by rw [ev_cst]; rfl)
    · intro i y e hx he
      obtain ⟨a, b, o, rfl⟩ := he
      obtain ⟨hi, rfl⟩ := rng_at hx
      refine ⟨_, rfl, Go.step (e' := [some (dat (.int x)), some (dat (.int ((a * 48271 + 12345 + (i : Int)) % 2147483647))), some (dat (.int b)), some (dat (.int (i : Int)))]) ?_ (Go.step (e' := [some (dat (.int x)), some (dat (.int ((a * 48271 + 12345 + (i : Int)) % 2147483647))), some (dat (.int (b * 2147483647 + (a * 48271 + 12345 + (i : Int)) % 2147483647))), some (dat (.int (i : Int)))]) ?_ (Go.nil ⟨rfl, _, _, _, rfl⟩))⟩
      · simp -implicitDefEqProofs [getB, B.toD, lift, O.toD, now, putO, biD, modD, mulD, addD]
      · simp -implicitDefEqProofs [getB, B.toD, lift, O.toD, now, putO, biD, modD, mulD, addD]
    · intro e2 h
      obtain ⟨a, b, o, rfl⟩ := h
      refine Go.ret (o := dat (.int b)) (e' := [some (dat (.int x)), some (dat (.int a)), none, o]) ?_ ⟨_, rfl, b, rfl, rfl⟩
      simp -implicitDefEqProofs [])
  obtain ⟨y, rfl, rfl⟩ := q
  exact ⟨y, h⟩
theorem draw1 (k : Nat) (cells : List Int) (a b c s m : Int) (ha : 0 ≤ a) : ∃ a' b' o, 0 ≤ a' ∧ evS (run tab (k + 1)) (.ife (.and (.cons (.cmp .le (.idx (.bor 0) (.cst (.int 2))) (.cst (.int 0))) (.cons (.cmp .lt (.idx (.bor 0) (.cst (.int 1))) (.bi .len (.idx (.bor 0) (.cst (.int 0))))) .nil))) (.cons (.set 2 (.idx (.idx (.bor 0) (.cst (.int 0))) (.idx (.bor 0) (.cst (.int 1))))) (.cons (.seti 0 (.cst (.int 1)) (.bin .add (.idx (.bor 0) (.cst (.int 1))) (.cst (.int 1)))) (.cons (.seti 0 (.cst (.int 2)) (.var 2)) (.cons (.ife (.cmp .lt (.bor 2) (.cst (.int 1000000000000000000))) (.cons (.seti 0 (.cst (.int 2)) (.call 29 (.cons (.var 2) .nil))) .nil) .nil) .nil)))) .nil) [some (.b (.lst (poolL cells a b c s))), some (dat (.int m)), none, none, none] = some (.nx, [some (.b (.lst (poolL cells a' b' c s))), some (dat (.int m)), o, none, none]) := by
  by_cases h1 : b ≤ 0
  · by_cases h2 : a < cells.length
    · obtain ⟨i, rfl⟩ := Int.eq_ofNat_of_zero_le ha
      have hc := at_il (List.getElem?_eq_getElem (show i < cells.length by omega))
      have hlen : ((il cells).length : Int) = (cells.length : Int) := by simp
      rw [← hlen] at h2
      generalize cells[i] = x at *
      obtain ⟨y, hy⟩ := spread k x
      by_cases h3 : x < 1000000000000000000
      · refine ⟨i + 1, y, some (dat (.int x)), by omega, ?_⟩
        unfold poolL
        generalize il cells = cs at *
        simp -implicitDefEqProofs [tst, getB, B.toD, lift, O.toD, boolD, stillM, now, idxD, cmpD, biD, putO, lstAt, intOf, evas_of, putBack, addD, ix51, ix52, h1, h2, h3, hc, hy]
      · refine ⟨i + 1, x, some (dat (.int x)), by omega, ?_⟩
        unfold poolL
        generalize il cells = cs at *
        simp -implicitDefEqProofs [tst, getB, B.toD, lift, O.toD, boolD, stillM, now, idxD, cmpD, biD, putO, lstAt, intOf, evas_of, putBack, addD, ix51, ix52, h1, h2, h3, hc, hy]
    · refine ⟨a, b, none, ha, ?_⟩
      have hlen : ((il cells).length : Int) = (cells.length : Int) := by simp
      rw [← hlen] at h2
      unfold poolL
      generalize il cells = cs at *
      simp -implicitDefEqProofs [tst, getB, B.toD, lift, O.toD, boolD, stillM, now, idxD, cmpD, biD, putO, lstAt, intOf, evas_of, putBack, addD, ix51, ix52, h1, h2]
  · refine ⟨a, b, none, ha, ?_⟩
    unfold poolL
    generalize il cells = cs at *
    simp -implicitDefEqProofs [tst, getB, B.toD, lift, O.toD, boolD, stillM, now, idxD, cmpD, biD, putO, lstAt, intOf, evas_of, putBack, addD, ix51, ix52, h1]
theorem draw (k : Nat) (p : List D) (m : Int) (hp : Pool p) (hm : 0 < m) (hm2 : m ≤ 1000000) : ∃ p' v, run tab (k + 2) 30 [.b (.lst p), dat (.int m)] = some ([some (.b (.lst p')), none], dat (.int v)) ∧ Pool p' ∧ 0 ≤ v ∧ v < m := by
  obtain ⟨cells, a, b, c, s, rfl, ha⟩ := hp
  rw [r__law_draw]
  obtain ⟨bs, o, h, q⟩ := call_ex (f := f__law_draw) (C := run tab (k + 1)) (xs := [.b (.lst (poolL cells a b c s)), dat (.int m)]) (Q := fun bs o => ∃ p' v, bs = [some (.b (.lst p')), none] ∧ o = dat (.int v) ∧ Pool p' ∧ 0 ≤ v ∧ v < m) rfl (by
    obtain ⟨a', b', o2, ha', h1⟩ := draw1 k cells a b c s m ha
    refine Go.step h1 (Go.step (e' := [some (.b (.lst (poolL cells a' b' (c + 1) s))), some (dat (.int m)), o2, none, none]) ?_ ?_)
    · unfold poolL
      generalize il cells = cs at *
      simp -implicitDefEqProofs [getB, B.toD, lift, O.toD, now, idxD, putO, lstAt, intOf, addD, ix53]
    · by_cases hb : b' ≤ 0
      · refine Go.ifeT (e' := [some (.b (.lst (poolL cells a' b' (c + 1) s))), some (dat (.int m)), o2, none, none]) ?_ (Go.step (e' := [some (.b (.lst (poolL cells a' b' (c + 1) s))), some (dat (.int m)), o2, some (dat (.int ((s * 48271 + (c + 1) * 69621 + 1) % 2147483647))), none]) ?_ (Go.step (e' := [some (.b (.lst (poolL cells a' b' (c + 1) s))), some (dat (.int m)), o2, some (dat (.int (((s * 48271 + (c + 1) * 69621 + 1) % 2147483647 * 16807 + (c + 1)) % 2147483629))), none]) ?_ (Go.ret (o := dat (.int ((((s * 48271 + (c + 1) * 69621 + 1) % 2147483647 * 16807 + (c + 1)) % 2147483629) / 5 % m))) (e' := [some (.b (.lst (poolL cells a' b' (c + 1) s))), some (dat (.int m)), o2, some (dat (.int (((s * 48271 + (c + 1) * 69621 + 1) % 2147483647 * 16807 + (c + 1)) % 2147483629))), none]) ?_ ⟨_, rfl, _, _, rfl, rfl, ⟨cells, a', b', c + 1, s, rfl, ha'⟩, Int.emod_nonneg _ (by omega), Int.emod_lt_of_pos _ hm⟩)))
        · unfold poolL
          generalize il cells = cs at *
          simp -implicitDefEqProofs [tst, getB, B.toD, lift, O.toD, boolD, now, idxD, cmpD, hb]
        · unfold poolL
          generalize il cells = cs at *
          simp -implicitDefEqProofs [getB, B.toD, lift, O.toD, now, idxD, putO, biD, addD, mulD, modD]
        · unfold poolL
          generalize il cells = cs at *
          generalize hq : (s * 48271 + (c + 1) * 69621 + 1) % 2147483647 = q
          simp -implicitDefEqProofs [getB, B.toD, lift, O.toD, now, idxD, putO, biD, addD, mulD, modD]
        · generalize poolL cells a' b' (c + 1) s = p at *
          generalize hq : ((s * 48271 + (c + 1) * 69621 + 1) % 2147483647 * 16807 + (c + 1)) % 2147483629 = q
          simp -implicitDefEqProofs [getB, B.toD, lift, O.toD, now, idxD, putO, biD, fdivD, modD, hm]
      · refine Go.ifeF (e' := [some (.b (.lst (poolL cells a' b' (c + 1) s))), some (dat (.int m)), o2, none, none]) ?_ (Go.nil (Go.step (e' := [some (.b (.lst (poolL cells a' b' (c + 1) s))), some (dat (.int m)), o2, none, some (dat (.int (b' % m)))]) ?_ (Go.step (e' := [some (.b (.lst (poolL cells a' (b' / m) (c + 1) s))), some (dat (.int m)), o2, none, some (dat (.int (b' % m)))]) ?_ (Go.ret (o := dat (.int (b' % m))) (e' := [some (.b (.lst (poolL cells a' (b' / m) (c + 1) s))), some (dat (.int m)), o2, none, none]) ?_ ⟨_, rfl, _, _, rfl, rfl, ⟨cells, a', b' / m, c + 1, s, rfl, ha'⟩, Int.emod_nonneg _ (by omega), Int.emod_lt_of_pos _ hm⟩))))
        · unfold poolL
          generalize il cells = cs at *
          simp -implicitDefEqProofs [tst, getB, B.toD, lift, O.toD, boolD, now, idxD, cmpD, hb]
        · unfold poolL
          generalize il cells = cs at *
          simp -implicitDefEqProofs [getB, B.toD, lift, O.toD, now, idxD, putO, biD, modD, hm]
        · unfold poolL
          have hf := fdivD (i := b') hm (by omega)
          generalize il cells = cs at *
          simp -implicitDefEqProofs [getB, B.toD, lift, O.toD, now, idxD, putO, lstAt, intOf, ix52, hf]
        · simp -implicitDefEqProofs [])
  obtain ⟨p', v, rfl, rfl, hq⟩ := q
  exact ⟨p', v, h, hq⟩
theorem cat_tup {xs ys : List D} (h : xs.length + ys.length ≤ sizeLine) : binD .add (.tuple xs) (.tuple ys) = some (dat (.tuple (xs ++ ys))) := by
  show (if xs.length + ys.length ≤ sizeLine then some (dat (.tuple (xs ++ ys))) else none) = _
  rw [if_pos h]
theorem cat_lst {xs ys : List D} (h : xs.length + ys.length ≤ sizeLine) : binD .add (.list xs) (.list ys) = some (.b (.lst (xs ++ ys))) := by
  show (if xs.length + ys.length ≤ sizeLine then some (B.lst (xs ++ ys) |> O.b) else none) = _
  rw [if_pos h]
theorem ev_tup_of {C : CallF} {xs : Ms} {e e' : Env'} {ds : List D} (h : evs C xs e = some (ds, e')) (hl : ds.length ≤ 1000) : ev C (.tup xs) e = some (dat (.tuple ds), e') := by
  rw [ev_tup, h, Option.bind_some]
  have := sl
  show (if ds.length ≤ sizeLine then some (dat (.tuple ds), e') else none) = _
  rw [if_pos (by omega)]
theorem ev_lst_of {C : CallF} {xs : Ms} {e e' : Env'} {ds : List D} (h : evs C xs e = some (ds, e')) (hl : ds.length ≤ 1000) : ev C (.lst xs) e = some (.b (.lst ds), e') := by
  rw [ev_lst, h, Option.bind_some]
  have := sl
  show (if ds.length ≤ sizeLine then some (O.b (.lst ds), e') else none) = _
  rw [if_pos (by omega)]
def Net (n : Nat) (as : List Arc) : Prop := 2 ≤ n ∧ n ≤ 7 ∧ as.length ≤ 14 ∧ ∀ a ∈ as, a.1 < n ∧ a.2.1 < n ∧ a.1 ≠ a.2.1 ∧ 0 ≤ a.2.2 ∧ a.2.2 ≤ 100
theorem Net.inn {n : Nat} {as : List Arc} (h : Net n as) : InNet n as := fun a ha => ⟨(h.2.2.2 a ha).1, (h.2.2.2 a ha).2.1⟩
theorem drawN (k : Nat) (p : List D) (m : Int) (hp : Pool p) (hm : 0 < m) (hm2 : m ≤ 1000000) : ∃ (p' : List D) (v : Nat), run tab (k + 2) 30 [.b (.lst p), dat (.int m)] = some ([some (.b (.lst p')), none], dat (.int (v : Int))) ∧ Pool p' ∧ (v : Int) < m := by
  obtain ⟨p', v, h, hp', h0, h1⟩ := draw k p m hp hm hm2
  obtain ⟨i, rfl⟩ := Int.eq_ofNat_of_zero_le h0
  exact ⟨p', i, h, hp', h1⟩
theorem other {n i v : Nat} (hi : i < n) (hv : v < n - 1) : ∃ j : Nat, ((i : Int) + 1 + (v : Int)) % (n : Int) = (j : Int) ∧ j < n ∧ i ≠ j := by
  refine ⟨(i + 1 + v) % n, ?_, Nat.mod_lt _ (by omega), ?_⟩
  · have : ((i : Int) + 1 + (v : Int)) = ((i + 1 + v : Nat) : Int) := by omega
    rw [this, Int.natCast_emod]
  · by_cases h : i + 1 + v < n
    · rw [Nat.mod_eq_of_lt h]
      omega
    · rw [Nat.mod_eq_sub_mod (by omega), Nat.mod_eq_of_lt (by omega)]
      omega
theorem law_ends (k n : Nat) (p : List D) (hp : Pool p) (hn : 2 ≤ n) (hn2 : n ≤ 7) : ∃ (p' : List D) (s t : Nat), run tab (k + 3) 33 [.b (.lst p), dat (.int (n : Int))] = some ([some (.b (.lst p')), none], dat (.tuple [.int (s : Int), .int (t : Int)])) ∧ Pool p' ∧ s < n ∧ t < n ∧ s ≠ t := by
  obtain ⟨p1, v1, h1, hp1, hv1⟩ := drawN k p n hp (by omega) (by omega)
  obtain ⟨p2, v2, h2, hp2, hv2⟩ := drawN k p1 ((n : Int) - 1) hp1 (by omega) (by omega)
  obtain ⟨j, hj, hjn, hij⟩ := other (n := n) (i := v1) (v := v2) (by omega) (by omega)
  refine ⟨p2, v1, j, ?_, hp2, by omega, hjn, hij⟩
  rw [r__law_ends]
  have hm : binD .mod (.int ((v1 : Int) + 1 + (v2 : Int))) (.int (n : Int)) = some (dat (.int (j : Int))) := by rw [modD (by omega), hj]
  refine call_of rfl (Go.step (e' := [some (.b (.lst p1)), some (dat (.int (n : Int))), some (dat (.int (v1 : Int)))]) ?_ (Go.ret (o := dat (.tuple [.int (v1 : Int), .int (j : Int)])) (e' := [some (.b (.lst p2)), some (dat (.int (n : Int))), some (dat (.int (v1 : Int)))]) ?_ ⟨rfl, rfl⟩))
  · simp -implicitDefEqProofs [f__law_ends, getB, B.toD, lift, O.toD, stillM, evas_of, putBack, putO, h1]
  · refine ev_tup_of ?_ (by simp)
    simp -implicitDefEqProofs [f__law_ends, getB, B.toD, lift, O.toD, now, stillM, evas_of, putBack, putO, addD, subD, h2, hm]
theorem law_net (k : Nat) (p : List D) (hp : Pool p) : ∃ (p' : List D) (n : Nat) (as : List Arc), run tab (k + 3) 32 [.b (.lst p), dat (.int 4), dat (.int 6)] = some ([some (.b (.lst p')), none, none], dat (netD n as)) ∧ Pool p' ∧ Net n as := by
  rw [r__law_net]
  have hsl := sl
  obtain ⟨p1, v1, h1, hp1, hv1⟩ := drawN k p 3 hp (by omega) (by omega)
  obtain ⟨p2, v2, h2, hp2, hv2⟩ := drawN k p1 3 hp1 (by omega) (by omega)
  obtain ⟨p3, v3, h3, hp3, hv3⟩ := drawN k p2 7 hp2 (by omega) (by omega)
  obtain ⟨n, hn⟩ : ∃ n : Nat, n = 2 + v1 := ⟨_, rfl⟩
  have hn' : (2 : Int) + (v1 : Int) = (n : Int) := by omega
  obtain ⟨top, ht, ht0, ht1⟩ : ∃ top : Int, atD [.int 2, .int 6, .int 101] (v2 : Int) = some (.int top) ∧ 0 < top ∧ top ≤ 101 := by
    have : v2 = 0 ∨ v2 = 1 ∨ v2 = 2 := by omega
    rcases this with rfl | rfl | rfl
    · exact ⟨2, rfl, by omega, by omega⟩
    · exact ⟨6, rfl, by omega, by omega⟩
    · exact ⟨101, rfl, by omega, by omega⟩
  obtain ⟨bs, o, h, q⟩ := call_ex (f := f__law_net) (C := run tab (k + 2)) (xs := [.b (.lst p), dat (.int 4), dat (.int 6)]) (Q := fun bs o => ∃ (p' : List D) (as : List Arc), bs = [some (.b (.lst p')), none, none] ∧ o = dat (netD n as) ∧ Pool p' ∧ Net n as) rfl (by
    refine Go.step (e' := [some (.b (.lst p1)), some (dat (.int 4)), some (dat (.int 6)), some (dat (.int (n : Int))), none, none, none, none, none]) ?_ (Go.step (e' := [some (.b (.lst p2)), some (dat (.int 4)), some (dat (.int 6)), some (dat (.int (n : Int))), some (dat (.int top)), none, none, none, none]) ?_ (Go.step (e' := [some (.b (.lst p2)), some (dat (.int 4)), some (dat (.int 6)), some (dat (.int (n : Int))), some (dat (.int top)), some (.b (.lst [])), none, none, none]) ?_ (Go.forr (xs := rngD 0 v3) (e1 := [some (.b (.lst p3)), some (dat (.int 4)), some (dat (.int 6)), some (dat (.int (n : Int))), some (dat (.int top)), some (.b (.lst [])), none, none, none]) (fun i e => ∃ (p : List D) (as : List Arc) (o6 o7 o8 : Option O), e = [some (.b (.lst p)), some (dat (.int 4)), some (dat (.int 6)), some (dat (.int (n : Int))), some (dat (.int top)), some (.b (.lst (as.map arcD))), o6, o7, o8] ∧ Pool p ∧ as.length = i ∧ ∀ a ∈ as, a.1 < n ∧ a.2.1 < n ∧ a.1 ≠ a.2.1 ∧ 0 ≤ a.2.2 ∧ a.2.2 ≤ 100) ?_ ⟨p3, [], none, none, none, rfl, hp3, rfl, fun a ha => by cases ha⟩ ?_ ?_)))
    · simp -implicitDefEqProofs [f__law_net, getB, B.toD, lift, O.toD, now, stillM, evas_of, putBack, putO, addD, subD, h1, hn']
    · have ht' : evb (run tab (k + 2)) (.tup (.cons (.cst (.int 2)) (.cons (.cst (.int 6)) (.cons (.cst (.int 101)) .nil)))) [some (.b (.lst p1)), some (dat (.int 4)), some (dat (.int 6)), some (dat (.int (n : Int))), none, none, none, none, none] = some (.tuple [.int 2, .int 6, .int 101], [some (.b (.lst p1)), some (dat (.int 4)), some (dat (.int 6)), some (dat (.int (n : Int))), none, none, none, none, none]) := by
        rw [evb_tup, ev_tup_of (e' := [some (.b (.lst p1)), some (dat (.int 4)), some (dat (.int 6)), some (dat (.int (n : Int))), none, none, none, none, none]) (ds := [.int 2, .int 6, .int 101]) (by simp -implicitDefEqProofs [lift, O.toD, B.toD]) (by simp)]
        rfl
      simp -implicitDefEqProofs [-evb_tup, getB, B.toD, lift, O.toD, now, stillM, evas_of, putBack, putO, idxD, h2, ht, ht']
    · rw [evS_set, ev_lst_of evs_nil (by simp)]
      rfl
    · refine evi_rng_of (by omega) ?_
      simp -implicitDefEqProofs [getB, B.toD, lift, O.toD, now, stillM, evas_of, putBack, putO, addD, h3]
    · intro i y e hx he
      obtain ⟨p, as, o6, o7, o8, rfl, hp, hl, hg⟩ := he
      obtain ⟨hi, rfl⟩ := rng_at hx
      obtain ⟨p4, v4, h4, hp4, hv4⟩ := drawN k p n hp (by omega) (by omega)
      obtain ⟨p5, v5, h5, hp5, hv5⟩ := drawN k p4 ((n : Int) - 1) hp4 (by omega) (by omega)
      obtain ⟨p6, v6, h6, hp6, hv6⟩ := drawN k p5 top hp5 (by omega) (by omega)
      obtain ⟨j, hj, hjn, hij⟩ := other (n := n) (i := v4) (v := v5) (by omega) (by omega)
      have hm : binD .mod (.int ((v4 : Int) + 1 + (v5 : Int))) (.int (n : Int)) = some (dat (.int (j : Int))) := by rw [modD (by omega), hj]
      refine ⟨_, rfl, Go.step (e' := [some (.b (.lst p4)), some (dat (.int 4)), some (dat (.int 6)), some (dat (.int (n : Int))), some (dat (.int top)), some (.b (.lst (as.map arcD))), some (dat (.int (i : Int))), some (dat (.int (v4 : Int))), o8]) ?_ (Go.step (e' := [some (.b (.lst p5)), some (dat (.int 4)), some (dat (.int 6)), some (dat (.int (n : Int))), some (dat (.int top)), some (.b (.lst (as.map arcD))), some (dat (.int (i : Int))), some (dat (.int (v4 : Int))), some (dat (.int (j : Int)))]) ?_ (Go.step (e' := [some (.b (.lst p6)), some (dat (.int 4)), some (dat (.int 6)), some (dat (.int (n : Int))), some (dat (.int top)), some (.b (.lst ((as ++ [(v4, j, (v6 : Int))]).map arcD))), some (dat (.int (i : Int))), some (dat (.int (v4 : Int))), some (dat (.int (j : Int)))]) ?_ (Go.nil ⟨rfl, p6, as ++ [(v4, j, (v6 : Int))], _, _, _, rfl, hp6, by simp [hl], fun a ha => ?_⟩)))⟩
      · simp -implicitDefEqProofs [getB, B.toD, lift, O.toD, now, stillM, evas_of, putBack, putO, h4]
      · simp -implicitDefEqProofs [getB, B.toD, lift, O.toD, now, stillM, evas_of, putBack, putO, addD, subD, h5, hm]
      · have hlt : as.length < sizeLine := by omega
        have ht := ev_tup_of (C := run tab (k + 2)) (xs := .cons (.var 7) (.cons (.var 8) (.cons (.call 30 (.cons (.bor 0) (.cons (.var 4) .nil))) .nil))) (e := [some (.b (.lst p5)), some (dat (.int 4)), some (dat (.int 6)), some (dat (.int (n : Int))), some (dat (.int top)), some (.b (.lst (as.map arcD))), some (dat (.int (i : Int))), some (dat (.int (v4 : Int))), some (dat (.int (j : Int)))]) (e' := [some (.b (.lst p6)), some (dat (.int 4)), some (dat (.int 6)), some (dat (.int (n : Int))), some (dat (.int top)), some (.b (.lst (as.map arcD))), some (dat (.int (i : Int))), some (dat (.int (v4 : Int))), some (dat (.int (j : Int)))]) (ds := [.int (v4 : Int), .int (j : Int), .int (v6 : Int)]) (by
          simp -implicitDefEqProofs [getB, B.toD, lift, O.toD, now, stillM, evas_of, putBack, putO, h6]) (by simp)
        simp -implicitDefEqProofs [-ev_tup, lstAt, lift, O.toD, B.toD, putO, ht, hlt, arcD]
      · rcases List.mem_append.mp ha with ha | ha
        · exact hg a ha
        · rw [List.mem_singleton] at ha
          subst ha
          exact ⟨by show v4 < n; omega, hjn, hij, by show 0 ≤ (v6 : Int); omega, by show (v6 : Int) ≤ 100; omega⟩
    · intro e2 h
      obtain ⟨p, as, o6, o7, o8, rfl, hp, hl, hg⟩ := h
      rw [rng_len] at hl
      refine Go.ret (o := dat (netD n as)) (e' := [some (.b (.lst p)), some (dat (.int 4)), some (dat (.int 6)), some (dat (.int (n : Int))), some (dat (.int top)), some (.b (.lst (as.map arcD))), o6, o7, o8]) (ev_tup_of ?_ (by simp)) ⟨_, rfl, p, as, rfl, rfl, hp, by omega, by omega, by omega, hg⟩
      simp -implicitDefEqProofs [getB, B.toD, lift, O.toD, stillM, biD])
  obtain ⟨p', as, rfl, rfl, hp', hN⟩ := q
  exact ⟨p', n, as, h, hp', hN⟩
theorem cut_il {ns : List Int} {lo hi : Option Int} : ∃ ms : List Int, cutD (il ns) lo hi = il ms := by
  unfold cutD il
  rw [← List.map_drop, ← List.map_take]
  exact ⟨_, rfl⟩
theorem law_pool (k : Nat) (ns : List Int) : ∃ p, run tab (k + 1) 28 [dat (.list (il ns))] = some ([none], .b (.lst p)) ∧ Pool p := by
  rw [r__law_pool]
  obtain ⟨ms, hms⟩ := cut_il (ns := ns) (lo := none) (hi := some 63)
  obtain ⟨bs, o, h, q⟩ := call_ex (f := f__law_pool) (C := run tab k) (xs := [dat (.list (il ns))]) (Q := fun bs o => ∃ p, bs = [none] ∧ o = .b (.lst p) ∧ Pool p) rfl (by
    refine Go.step (e' := [some (dat (.list (il ns))), some (dat (.int 7)), none]) ?_ (Go.forr (xs := il ms) (e1 := [some (dat (.list (il ns))), some (dat (.int 7)), none]) (fun _ e => ∃ a o, e = [some (dat (.list (il ns))), some (dat (.int a)), o]) ?_ ⟨_, _, rfl⟩ ?_ ?_)
    · simp -implicitDefEqProofs [putO, f__law_pool]
    · generalize il ns = L at *
      simp -implicitDefEqProofs [getB, B.toD, lift, O.toD, now, slcD, seqD, stillM, hms]
    · intro i x e hx he
      obtain ⟨a, o, rfl⟩ := he
      obtain ⟨z, _, rfl⟩ := List.mem_map.mp (List.mem_of_getElem? hx)
      refine ⟨_, rfl, Go.step (e' := [some (dat (.list (il ns))), some (dat (.int ((a * 31 + z) % 1000003))), some (dat (.int z))]) ?_ (Go.nil ⟨rfl, _, _, rfl⟩)⟩
      simp -implicitDefEqProofs [getB, B.toD, lift, O.toD, now, putO, biD, mulD, addD, modD]
    · intro e2 he
      obtain ⟨a, o, rfl⟩ := he
      refine Go.ret (o := .b (.lst (poolL ns 0 0 0 a))) (e' := [some (dat (.list (il ns))), some (dat (.int a)), o]) (ev_lst_of ?_ (by unfold poolL; simp)) ⟨_, rfl, _, rfl, rfl, ns, 0, 0, 0, a, rfl, by omega⟩
      unfold poolL
      generalize il ns = L at *
      simp -implicitDefEqProofs [getB, B.toD, lift, O.toD, stillM, biD])
  obtain ⟨p, rfl, rfl, hp⟩ := q
  exact ⟨p, h, hp⟩
theorem le_sl {n : Nat} (h : n ≤ 1000) : n ≤ sizeLine := by
  have := sl
  omega
end K57P
set_option linter.all false
set_option maxRecDepth 100000
set_option maxHeartbeats 1000000
namespace K57P
open PySem MP
/-- the integer x as a quotient -/
def qi (x : Int) : D := .tuple [.int x, .int 1]
theorem qi0 {x : Int} : idxD (qi x) (.int 0) = some (.int x) := atD_0
theorem qi1 {x : Int} : idxD (qi x) (.int 1) = some (.int 1) := atD_1
theorem two_len {x y : D} : ([x, y] : List D).length ≤ sizeLine := by rw [sl]; show 2 ≤ 16777216; omega
theorem gt01 : cmpD .gt (.int 1) (.int 0) = some true := rfl
theorem fd1 {x : Int} : binD .fdiv (.int x) (.int 1) = some (dat (.int x)) := by
  rw [fdivD (by omega) (by omega), Int.ediv_one]
theorem mul1 {x : Int} : binD .mul (.int x) (.int 1) = some (dat (.int x)) := by
  rw [mulD (by omega), Int.mul_one]
theorem quotient (n : Nat) (x : Int) : run tab (n + 1) 9 [dat (.int x), dat (.int 1)] = some ([none, none], dat (qi x)) := by
  rw [r_quotient]
  have g : ((Nat.gcd x.natAbs (1 : Int).natAbs : Nat) : Int) = 1 := by
    rw [show (1 : Int).natAbs = 1 from rfl, Nat.gcd_one_right]; rfl
  refine call_of rfl (Go.step (e' := [some (dat (.int x)), some (dat (.int 1)), some (dat (.int 1))]) ?_ (Go.ret (o := dat (qi x)) (e' := [some (dat (.int x)), some (dat (.int 1)), some (dat (.int 1))]) (ev_tup_of ?_ (by simp)) ⟨rfl, rfl⟩))
  · simp -implicitDefEqProofs [f_quotient, getB, B.toD, lift, O.toD, now, gt01, boolD, stillM, putO, g]
  · simp -implicitDefEqProofs [f_quotient, getB, B.toD, lift, O.toD, now, fd1, stillM, putO]
theorem plus (n : Nat) (x y : Int) : run tab (n + 2) 10 [dat (qi x), dat (qi y)] = some ([none, none], dat (qi (x + y))) := by
  rw [r_plus]
  refine call_of rfl (Go.ret (o := dat (qi (x + y))) (e' := [some (dat (qi x)), some (dat (qi y))]) ?_ ⟨rfl, rfl⟩)
  have a0 := qi0 (x := x)
  have a1 := qi1 (x := x)
  have b0 := qi0 (x := y)
  have b1 := qi1 (x := y)
  have hq := quotient n (x + y)
  generalize qi x = a at *
  generalize qi y = b at *
  simp -implicitDefEqProofs [f_plus, getB, B.toD, lift, O.toD, now, stillM, evas_of, putBack, a0, a1, b0, b1, mul1, addD, hq]
theorem minus (n : Nat) (x y : Int) : run tab (n + 2) 11 [dat (qi x), dat (qi y)] = some ([none, none], dat (qi (x - y))) := by
  rw [r_minus]
  refine call_of rfl (Go.ret (o := dat (qi (x - y))) (e' := [some (dat (qi x)), some (dat (qi y))]) ?_ ⟨rfl, rfl⟩)
  have a0 := qi0 (x := x)
  have a1 := qi1 (x := x)
  have b0 := qi0 (x := y)
  have b1 := qi1 (x := y)
  have hq := quotient n (x - y)
  generalize qi x = a at *
  generalize qi y = b at *
  simp -implicitDefEqProofs [f_minus, getB, B.toD, lift, O.toD, now, stillM, evas_of, putBack, a0, a1, b0, b1, mul1, subD, hq]
theorem times (n : Nat) (x y : Int) (h : -10000000000 ≤ y ∧ y ≤ 10000000000) : run tab (n + 2) 12 [dat (qi x), dat (qi y)] = some ([none, none], dat (qi (x * y))) := by
  rw [r_times]
  refine call_of rfl (Go.ret (o := dat (qi (x * y))) (e' := [some (dat (qi x)), some (dat (qi y))]) ?_ ⟨rfl, rfl⟩)
  have a0 := qi0 (x := x)
  have a1 := qi1 (x := x)
  have b0 := qi0 (x := y)
  have b1 := qi1 (x := y)
  have hq := quotient n (x * y)
  have hm := mulD (i := x) h
  generalize qi x = a at *
  generalize qi y = b at *
  simp -implicitDefEqProofs [f_times, getB, B.toD, lift, O.toD, now, stillM, evas_of, putBack, a0, a1, b0, b1, mul1, hm, hq]
theorem is_less (n : Nat) (x y : Int) : run tab (n + 1) 13 [dat (qi x), dat (qi y)] = some ([none, none], dat (.bool (decide (x < y)))) := by
  rw [r_is_less]
  refine call_of rfl (Go.ret (o := dat (.bool (decide (x < y)))) (e' := [some (dat (qi x)), some (dat (qi y))]) ?_ ⟨rfl, rfl⟩)
  have a0 := qi0 (x := x)
  have a1 := qi1 (x := x)
  have b0 := qi0 (x := y)
  have b1 := qi1 (x := y)
  generalize qi x = a at *
  generalize qi y = b at *
  simp -implicitDefEqProofs [f_is_less, getB, B.toD, lift, O.toD, now, stillM, a0, a1, b0, b1, mul1, cmpD]
theorem total (n : Nat) (d : D) (xs : List Int) (h : seqD d = some (xs.map qi)) : run tab (n + 3) 14 [dat d] = some ([none], dat (qi xs.sum)) := by
  rw [r_total]
  refine call_of rfl (Go.step (e' := [some (dat d), some (dat (qi 0)), none]) ?_ (Go.forr (xs := xs.map qi) (e1 := [some (dat d), some (dat (qi 0)), none]) (fun i e => ∃ o, e = [some (dat d), some (dat (qi (xs.take i).sum)), o]) ?_ ⟨none, rfl⟩ ?_ ?_))
  · rw [evS_set, ev_tup_of (ds := [.int 0, .int 1]) (e' := [some (dat d), none, none]) (by simp -implicitDefEqProofs [lift, O.toD, B.toD, f_total]) (by simp)]
    rfl
  · simp -implicitDefEqProofs [getB, B.toD, h, stillM]
  · intro i x e hx he
    obtain ⟨o, rfl⟩ := he
    rw [List.getElem?_map] at hx
    cases q : xs[i]? with
    | none => rw [q] at hx; cases hx
    | some y =>
      rw [q] at hx
      cases hx
      have hp := plus n (xs.take i).sum y
      have hs : (xs.take i).sum + y = (xs.take (i + 1)).sum := by
        rw [List.take_add_one, q]
        simp
      rw [hs] at hp
      refine ⟨[some (dat d), some (dat (qi (xs.take i).sum)), some (dat (qi y))], by simp -implicitDefEqProofs [MP.bind, putO], Go.step (e' := [some (dat d), some (dat (qi (xs.take (i + 1)).sum)), some (dat (qi y))]) ?_ (Go.nil ⟨rfl, _, rfl⟩)⟩
      generalize qi (xs.take i).sum = a at *
      generalize qi (xs.take (i + 1)).sum = b at *
      generalize qi y = c at *
      simp -implicitDefEqProofs [getB, B.toD, lift, O.toD, stillM, evas_of, putBack, putO, hp]
  · intro e2 h2
    obtain ⟨o, rfl⟩ := h2
    refine Go.ret (o := dat (qi xs.sum)) (e' := [some (dat d), none, o]) ?_ ⟨rfl, rfl⟩
    simp -implicitDefEqProofs []
end K57P
set_option linter.all false
set_option maxRecDepth 100000
set_option maxHeartbeats 1000000
namespace K57P
open PySem MP
theorem eq_str {u w : Str} : cmpD .eq (.str u) (.str w) = some (decide (u = w)) := by
  by_cases h : u = w <;> simp [cmpD, eqOk, PyData.eqv, h]
theorem ne_int {i j : Int} : cmpD .ne (.int i) (.int j) = some (!decide (i = j)) := by
  by_cases h : i = j <;> simp [cmpD, eqOk, PyData.eqv, h]
theorem eq_int {i j : Int} : cmpD .eq (.int i) (.int j) = some (decide (i = j)) := by
  by_cases h : i = j <;> simp [cmpD, eqOk, PyData.eqv, h]
theorem is_worded (n : Nat) (u w : Str) (r : List D) (m : Int) : run tab (n + 1) 4 [dat (.tuple (.str u :: r)), dat (.str w), dat (.int m)] = some ([none, none, none], dat (.bool (decide (((.str u :: r : List D).length : Int) = m) && decide (u = w)))) := by
  rw [r_is_worded]
  have g0 : idxD (.tuple (.str u :: r)) (.int 0) = some (.str u) := atD_0
  have hl : biD .len (.tuple (.str u :: r)) = some (dat (.int ((.str u :: r : List D).length : Int))) := rfl
  have ht : isiD (.tuple (.str u :: r)) .tuple = true := rfl
  generalize (.str u :: r : List D).length = L at *
  generalize (PyData.tuple (.str u :: r)) = v at *
  by_cases h : (L : Int) = m
  · refine call_of rfl (Go.ifeF (e' := [some (dat v), some (dat (.str w)), some (dat (.int m))]) ?_ (Go.nil (Go.ret (o := dat (.bool (decide ((L : Int) = m) && decide (u = w)))) (e' := [some (dat v), some (dat (.str w)), some (dat (.int m))]) ?_ ⟨rfl, rfl⟩)))
    · simp -implicitDefEqProofs [f_is_worded, tst, getB, B.toD, lift, O.toD, boolD, ht, hl, now, ne_int, h]
    · by_cases hu : u = w <;> simp -implicitDefEqProofs [getB, B.toD, lift, O.toD, boolD, now, g0, isiD, eq_str, h, hu]
  · refine call_of rfl (Go.ifeT (e' := [some (dat v), some (dat (.str w)), some (dat (.int m))]) ?_ (Go.ret (o := dat (.bool (decide ((L : Int) = m) && decide (u = w)))) (e' := [some (dat v), some (dat (.str w)), some (dat (.int m))]) ?_ ⟨rfl, rfl⟩))
    · simp -implicitDefEqProofs [f_is_worded, tst, getB, B.toD, lift, O.toD, boolD, ht, hl, now, ne_int, h]
    · simp -implicitDefEqProofs [h]
theorem worded_yes (n : Nat) (u : Str) (r : List D) (m : Int) (hm : ((.str u :: r : List D).length : Int) = m) : run tab (n + 1) 4 [dat (.tuple (.str u :: r)), dat (.str u), dat (.int m)] = some ([none, none, none], dat (.bool true)) := by
  rw [is_worded, decide_eq_true hm, decide_eq_true rfl]
  rfl
theorem worded_no (n : Nat) (u w : Str) (r : List D) (m : Int) (h : decide (u = w) = false) : run tab (n + 1) 4 [dat (.tuple (.str u :: r)), dat (.str w), dat (.int m)] = some ([none, none, none], dat (.bool false)) := by
  rw [is_worded, h, Bool.and_false]
theorem is_within (n : Nat) (i a b : Int) : run tab (n + 2) 1 [dat (.int i), dat (.int a), dat (.int b)] = some ([none, none, none], dat (.bool (decide (a ≤ i) && decide (i ≤ b)))) := by
  rw [r_is_within]
  have hi := is_integer n (.int i)
  refine call_of rfl (Go.ret (e' := [some (dat (.int i)), some (dat (.int a)), some (dat (.int b))]) ?_ ⟨rfl, rfl⟩)
  by_cases h : a ≤ i <;> by_cases h2 : i ≤ b <;> simp -implicitDefEqProofs [f_is_within, getB, B.toD, lift, O.toD, boolD, stillM, evas_of, putBack, hi, isInt, cmpD, h, h2]
/-- strictly ascending numbers below n -/
def Asc (n : Nat) (ks : List Nat) : Prop := (∀ k ∈ ks, k < n) ∧ ∀ i, i + 1 < ks.length → ks.getD i 0 < ks.getD (i + 1) 0
abbrev nl (ks : List Nat) : List D := ks.map fun (k : Nat) => PyData.int (k : Int)
theorem at_nl {ks : List Nat} {i : Nat} (h : i < ks.length) : atD (nl ks) (i : Int) = some (.int (ks.getD i 0 : Nat)) := by
  refine atD_nat ?_
  rw [List.getElem?_map, List.getElem?_eq_getElem h]
  simp [List.getD_eq_getElem?_getD, h]
theorem is_ascending (k n : Nat) (ks : List Nat) (h : Asc n ks) (hl : ks.length ≤ 1000) : run tab (k + 1) 6 [dat (.tuple (nl ks))] = some ([none], dat (.bool true)) := by
  rw [r_is_ascending]
  refine call_of rfl (Go.ret (o := dat (.bool true)) (e' := [some (dat (.tuple (nl ks)))]) ?_ ⟨rfl, rfl⟩)
  have hlen : biD .len (.tuple (nl ks)) = some (dat (.int (ks.length : Int))) := by simp [biD]
  have hr : evi (run tab k) (.rng (.bin .sub (.bi .len (.bor 0)) (.cst (.int 1)))) [some (dat (.tuple (nl ks)))] = some (rngD 0 ((ks.length : Int) - 1).toNat, [some (dat (.tuple (nl ks)))]) := by
    rw [evi_rng]
    simp -implicitDefEqProofs [getB, B.toD, lift, O.toD, now, hlen, subD]
    omega
  have hg : genAll true (trnG (run tab k) (.nm 0) .nil (.cmp .lt (.idx (.bor 1) (.var 0)) (.idx (.bor 1) (.bin .add (.bor 0) (.cst (.int 1))))) [none, some (dat (.tuple (nl ks)))]) (rngD 0 ((ks.length : Int) - 1).toNat) = some true := by
    rw [genAll_all (f := fun _ => true)]
    · simp
    · intro x hx
      obtain ⟨i, hx⟩ := List.mem_iff_getElem?.mp hx
      obtain ⟨hi, rfl⟩ := rng_at hx
      have g1 : idxD (.tuple (nl ks)) (.int (i : Int)) = some (.int (ks.getD i 0 : Nat)) := at_nl (by omega)
      have g2 : idxD (.tuple (nl ks)) (.int ((i : Int) + 1)) = some (.int (ks.getD (i + 1) 0 : Nat)) := at_nl (i := i + 1) (by omega)
      have hlt : ((ks.getD i 0 : Nat) : Int) < (ks.getD (i + 1) 0 : Nat) := by have := h.2 i (by omega); omega
      generalize ks.getD i 0 = u at *
      generalize ks.getD (i + 1) 0 = w at *
      generalize (PyData.tuple (nl ks)) = v at *
      simp -implicitDefEqProofs [trnG, MP.bind, putO, getB, B.toD, lift, O.toD, now, stillM, g1, g2, addD, cmpD, hlt]
  show ev (run tab k) (.gen .all _ _ _ _ (.rng (.bin .sub (.bi .len (.bor 0)) (.cst (.int 1)))) _ _) [some (dat (.tuple (nl ks)))] = _
  rw [ev_all, hr]
  generalize rngD 0 ((ks.length : Int) - 1).toNat = R at *
  simp -implicitDefEqProofs [capt, hg]
theorem is_places (k n : Nat) (ks : List Nat) (h : Asc n ks) (hl : ks.length ≤ 1000) : run tab (k + 3) 5 [dat (.tuple (nl ks)), dat (.int (n : Int))] = some ([none, none], dat (.bool true)) := by
  rw [r_is_places]
  have ha := is_ascending (k + 1) n ks h hl
  have hg : genAll true (trnG (run tab (k + 2)) (.nm 0) .nil (.call 1 (.cons (.var 0) (.cons (.cst (.int 0)) (.cons (.bin .sub (.bor 1) (.cst (.int 1))) .nil)))) [none, some (dat (.int (n : Int)))]) (nl ks) = some true := by
    rw [genAll_all (f := fun _ => true)]
    · simp
    · intro x hx
      obtain ⟨i, hi, rfl⟩ := List.mem_map.mp hx
      have hw := is_within k (i : Int) 0 ((n : Int) - 1)
      have h1 := h.1 i hi
      rw [decide_eq_true (by omega : (0 : Int) ≤ i), decide_eq_true (by omega : (i : Int) ≤ (n : Int) - 1)] at hw
      simp -implicitDefEqProofs [trnG, MP.bind, putO, getB, B.toD, lift, O.toD, now, stillM, evas_of, putBack, subD, hw]
  have hs : seqD (.tuple (nl ks)) = some (nl ks) := rfl
  have ht : isiD (.tuple (nl ks)) .tuple = true := rfl
  generalize nl ks = xs at *
  generalize hv : PyData.tuple xs = v at *
  refine call_of rfl (Go.ifeF (e' := [some (dat v), some (dat (.int (n : Int)))]) ?_ (Go.nil (Go.ret (o := dat (.bool true)) (e' := [some (dat v), some (dat (.int (n : Int)))]) ?_ ⟨rfl, rfl⟩)))
  · simp -implicitDefEqProofs [f_is_places, tst, getB, B.toD, lift, O.toD, boolD, ht, hs, stillM, capt, hg]
  · simp -implicitDefEqProofs [getB, B.toD, lift, O.toD, stillM, evas_of, putBack, ha]
theorem is_quotient (n : Nat) (x : Int) : run tab (n + 3) 8 [dat (qi x)] = some ([none], dat (.bool true)) := by
  rw [r_is_quotient]
  have a0 := qi0 (x := x)
  have a1 := qi1 (x := x)
  have g : ((Nat.gcd x.natAbs (1 : Int).natAbs : Nat) : Int) = 1 := by
    rw [show (1 : Int).natAbs = 1 from rfl, Nat.gcd_one_right]; rfl
  have hr : run tab (n + 2) 2 [dat (qi x), dat (.int 2)] = some ([none, none], dat (.bool true)) := by
    rw [is_row]
    have : isRow (qi x) 2 = true := by simp [isRow, qi, isInt]
    rw [this]
  generalize qi x = a at *
  refine call_of rfl (Go.ret (o := dat (.bool true)) (e' := [some (dat a)]) ?_ ⟨rfl, rfl⟩)
  simp -implicitDefEqProofs [f_is_quotient, getB, B.toD, lift, O.toD, boolD, now, stillM, evas_of, putBack, hr, a0, a1, gt01, g, eq_int]
theorem is_quotient_row (n : Nat) (xs : List Int) (m : Int) (hm : (xs.length : Int) = m) : run tab (n + 4) 15 [dat (.tuple (xs.map qi)), dat (.int m)] = some ([none, none], dat (.bool true)) := by
  rw [r_is_quotient_row]
  have hg : genAll true (trnG (run tab (n + 3)) (.nm 0) .nil (.call 8 (.cons (.var 0) .nil)) [none]) (xs.map qi) = some true := by
    rw [genAll_all (f := fun _ => true)]
    · simp
    · intro x hx
      obtain ⟨i, hi, rfl⟩ := List.mem_map.mp hx
      have hw := is_quotient n i
      generalize qi i = a at *
      simp -implicitDefEqProofs [trnG, MP.bind, putO, getB, B.toD, lift, O.toD, stillM, evas_of, putBack, hw]
  have hl : biD .len (.tuple (xs.map qi)) = some (dat (.int m)) := by simp [biD, hm]
  have hs : seqD (.tuple (xs.map qi)) = some (xs.map qi) := rfl
  have ht : isiD (.tuple (xs.map qi)) .tuple = true := rfl
  generalize xs.map qi = ys at *
  generalize PyData.tuple ys = v at *
  refine call_of rfl (Go.ret (o := dat (.bool true)) (e' := [some (dat v), some (dat (.int m))]) ?_ ⟨rfl, rfl⟩)
  simp -implicitDefEqProofs [f_is_quotient_row, getB, B.toD, lift, O.toD, boolD, now, stillM, ht, hl, hs, eq_int, capt, hg]
end K57P
set_option linter.all false
set_option maxRecDepth 100000
set_option maxHeartbeats 1000000
namespace K57P
open PySem MP
/-- what a list's block makes -/
theorem lc_lst {α : Type} {C : CallF} {own : List Nat} {tg : Tg} {it : Itm} {cs : Ms} {elt : M} {e e1 w : Env'} (xs : List α) (g : α → D) (p : α → Bool) (f : α → D) (hi : evi C it e = some (xs.map g, e1)) (hw : wipe' e1 own = w)
    (ht : ∀ x ∈ xs, ∃ e', trnL C tg cs elt (g x) w = some (if p x = true then some (f x) else none, e') ∧ wipe' e' own = w) (hl : xs.length ≤ 1000) : ev C (.lc own tg it cs elt) e = some (.b (.lst ((xs.filter p).map f)), w) := by
  rw [ev_lc, hi]
  simp only [Option.bind_some]
  rw [lc_mapA (w := w) g (fun x => if p x = true then some (f x) else none) ht hw (by rw [sl]; simp; omega), filterMap_if]
  rfl
theorem lc_sum {α : Type} {C : CallF} {own : List Nat} {tg : Tg} {it : Itm} {cs : Ms} {elt : M} {e e1 w : Env'} (xs : List α) (g : α → D) (p : α → Bool) (f : α → Int) (hi : evi C it e = some (xs.map g, e1)) (hw : wipe' e1 own = w)
    (ht : ∀ x ∈ xs, ∃ e', trnL C tg cs elt (g x) w = some (if p x = true then some (.int (f x)) else none, e') ∧ wipe' e' own = w) (hl : xs.length ≤ 1000) : ev C (.bi .sum (.lc own tg it cs elt)) e = some (dat (.int ((xs.filter p).map f).sum), w) := by
  rw [ev_bi, evb_lc, lc_lst xs g p (fun x => .int (f x)) hi hw ht hl]
  have : ((xs.filter p).map fun x => PyData.int (f x)) = il ((xs.filter p).map f) := by rw [il, List.map_map]; rfl
  rw [this]
  show (biD .sum (.list (il _))).map _ = _
  simp only [biD]
  rw [intsD_il]
  rfl
theorem lc_tup {α : Type} {C : CallF} {own : List Nat} {tg : Tg} {it : Itm} {cs : Ms} {elt : M} {e e1 w : Env'} (xs : List α) (g : α → D) (p : α → Bool) (f : α → D) (hi : evi C it e = some (xs.map g, e1)) (hw : wipe' e1 own = w)
    (ht : ∀ x ∈ xs, ∃ e', trnL C tg cs elt (g x) w = some (if p x = true then some (f x) else none, e') ∧ wipe' e' own = w) (hl : xs.length ≤ 1000) : ev C (.bi .tuple (.lc own tg it cs elt)) e = some (dat (.tuple ((xs.filter p).map f)), w) := by
  rw [ev_bi, evb_lc, lc_lst xs g p f hi hw ht hl]
  rfl
def mem (ks : List Nat) (i : Nat) : Bool := decide (i ∈ ks)
theorem flat_nl {ks : List Nat} : (nl ks).all flatD = true := by
  rw [List.all_eq_true]
  intro x hx
  obtain ⟨i, _, rfl⟩ := List.mem_map.mp hx
  rfl
theorem any_nl {ks : List Nat} {i : Nat} : ((nl ks).any fun z => PyData.eqv z (.int (i : Int))) = mem ks i := by
  unfold mem
  induction ks with
  | nil => rfl
  | cons k ks ih =>
    show (PyData.eqv (.int (k : Int)) (.int (i : Int)) || (nl ks).any fun z => PyData.eqv z (.int (i : Int))) = _
    rw [ih]
    have : PyData.eqv (.int (k : Int)) (.int (i : Int)) = decide (i = k) := by
      simp only [PyData.eqv]
      by_cases h : i = k
      · simp [h]
      · have : ¬ (k : Int) = (i : Int) := by omega
        simp [h, this]
    rw [this]
    simp [List.mem_cons]
theorem in_nl {ks : List Nat} {i : Nat} : cmpD .inn (.int (i : Int)) (.tuple (nl ks)) = some (mem ks i) := by
  have h := flat_nl (ks := ks)
  have h2 := any_nl (ks := ks) (i := i)
  generalize nl ks = xs at *
  simp [cmpD, h, h2, flatD]
theorem nin_nl {ks : List Nat} {i : Nat} : cmpD .notIn (.int (i : Int)) (.tuple (nl ks)) = some (!mem ks i) := by
  have h := flat_nl (ks := ks)
  have h2 := any_nl (ks := ks) (i := i)
  generalize nl ks = xs at *
  simp [cmpD, h, h2, flatD]
/-- what the arcs that leave a side take -/
def crossL (as : List Arc) (ks : List Nat) : Int := ((as.filter fun a => mem ks a.1 && !mem ks a.2.1).map fun a => a.2.2).sum
theorem crossing (k n : Nat) (as : List Arc) (ks : List Nat) (hl : as.length ≤ 1000) : run tab (k + 1) 7 [dat (netD n as), dat (.tuple (nl ks))] = some ([none, none], dat (.int (crossL as ks))) := by
  rw [r_crossing]
  refine call_of rfl (Go.ret (o := dat (.int (crossL as ks))) (e' := [some (dat (netD n as)), some (dat (.tuple (nl ks))), none]) ?_ ⟨rfl, rfl⟩)
  refine lc_sum (w := [some (dat (netD n as)), some (dat (.tuple (nl ks))), none]) (e1 := [some (dat (netD n as)), some (dat (.tuple (nl ks))), none]) as arcD (fun a => mem ks a.1 && !mem ks a.2.1) (fun a => a.2.2) ?_ rfl ?_ hl
  · have g : idxD (netD n as) (.int 1) = some (.tuple (as.map arcD)) := atD_1
    generalize netD n as = N at *
    simp -implicitDefEqProofs [f_crossing, evi_dat, getB, B.toD, lift, O.toD, now, g, seqD, stillM]
  · intro a ha
    refine ⟨[some (dat (netD n as)), some (dat (.tuple (nl ks))), some (dat (arcD a))], ?_, rfl⟩
    have g0 : idxD (arcD a) (.int 0) = some (.int (a.1 : Int)) := atD_0
    have g1 : idxD (arcD a) (.int 1) = some (.int (a.2.1 : Int)) := atD_1
    have g2 : idxD (arcD a) (.int 2) = some (.int a.2.2) := atD_2
    have m0 := in_nl (ks := ks) (i := a.1)
    have m1 := nin_nl (ks := ks) (i := a.2.1)
    generalize netD n as = N at *
    generalize PyData.tuple (nl ks) = S at *
    generalize arcD a = A at *
    generalize mem ks a.1 = b0 at *
    generalize mem ks a.2.1 = b1 at *
    cases b0 <;> cases b1 <;> simp -implicitDefEqProofs [trnL, MP.bind, putO, getB, B.toD, lift, O.toD, boolD, now, stillM, g0, g1, g2, m0, m1]
/-- the arcs of a task, a need -/
def arcR (r : List D) (a : Arc) : D := .tuple (.int (a.1 : Int) :: .int (a.2.1 : Int) :: .int 0 :: .int a.2.2 :: r)
/-- what can come into a side -/
def inL (as : List Arc) (ks : List Nat) : Int := ((as.filter fun a => !mem ks a.1 && mem ks a.2.1).map fun a => a.2.2).sum
def needL (ns : List Int) (ks : List Nat) : Int := (ks.map fun k => ns.getD k 0).sum
theorem sum0 {α : Type} {xs : List α} : (xs.map fun _ => (0 : Int)).sum = 0 := by
  induction xs with
  | nil => rfl
  | cons x xs ih => rw [List.map_cons, List.sum_cons, ih]; rfl
theorem is_crowd (k n : Nat) (r : List D) (as : List Arc) (ns : List Int) (ks : List Nat) (hl : as.length ≤ 1000) (hk : ∀ k ∈ ks, k < ns.length) (hkl : ks.length ≤ 1000) :
    run tab (k + 1) 16 [dat (.tuple (as.map (arcR r))), dat (.tuple (il ns)), dat (.tuple (nl ks))] = some ([none, none, none], dat (.bool (decide (inL as ks < needL ns ks)))) := by
  rw [r_is_crowd]
  have tn : ∀ (a : Arc) (x3 x5 : Option O) (N : D), trnL (run tab k) (.nm 4) (.cons (.and (.cons (.cmp .notIn (.idx (.bor 4) (.cst (.int 0))) (.bor 2)) (.cons (.cmp .inn (.idx (.bor 4) (.cst (.int 1))) (.bor 2)) .nil))) .nil) (.idx (.bor 4) (.cst (.int 3))) (arcR r a) [some (dat (.tuple (as.map (arcR r)))), some (dat N), some (dat (.tuple (nl ks))), x3, none, x5, none] = some (if (!mem ks a.1 && mem ks a.2.1) = true then some (.int a.2.2) else none, [some (dat (.tuple (as.map (arcR r)))), some (dat N), some (dat (.tuple (nl ks))), x3, some (dat (arcR r a)), x5, none]) := fun a x3 x5 N => by
    have g0 : idxD (arcR r a) (.int 0) = some (.int (a.1 : Int)) := atD_0
    have g1 : idxD (arcR r a) (.int 1) = some (.int (a.2.1 : Int)) := atD_1
    have g2 : idxD (arcR r a) (.int 3) = some (.int a.2.2) := atD_3
    have m0 := nin_nl (ks := ks) (i := a.1)
    have m1 := in_nl (ks := ks) (i := a.2.1)
    generalize PyData.tuple (as.map (arcR r)) = T at *
    generalize PyData.tuple (nl ks) = S at *
    generalize arcR r a = A at *
    generalize mem ks a.1 = b0 at *
    generalize mem ks a.2.1 = b1 at *
    cases b0 <;> cases b1 <;> simp -implicitDefEqProofs [trnL, MP.bind, putO, getB, B.toD, lift, O.toD, boolD, now, stillM, g0, g1, g2, m0, m1]
  have tn2 : ∀ (a : Arc) (x3 x5 : Option O) (N : D), trnL (run tab k) (.nm 4) (.cons (.and (.cons (.cmp .inn (.idx (.bor 4) (.cst (.int 0))) (.bor 2)) (.cons (.cmp .notIn (.idx (.bor 4) (.cst (.int 1))) (.bor 2)) .nil))) .nil) (.idx (.bor 4) (.cst (.int 2))) (arcR r a) [some (dat (.tuple (as.map (arcR r)))), some (dat N), some (dat (.tuple (nl ks))), x3, none, x5, none] = some (if (mem ks a.1 && !mem ks a.2.1) = true then some (.int 0) else none, [some (dat (.tuple (as.map (arcR r)))), some (dat N), some (dat (.tuple (nl ks))), x3, some (dat (arcR r a)), x5, none]) := fun a x3 x5 N => by
    have g0 : idxD (arcR r a) (.int 0) = some (.int (a.1 : Int)) := atD_0
    have g1 : idxD (arcR r a) (.int 1) = some (.int (a.2.1 : Int)) := atD_1
    have g2 : idxD (arcR r a) (.int 2) = some (.int 0) := atD_2
    have m0 := in_nl (ks := ks) (i := a.1)
    have m1 := nin_nl (ks := ks) (i := a.2.1)
    generalize PyData.tuple (as.map (arcR r)) = T at *
    generalize PyData.tuple (nl ks) = S at *
    generalize arcR r a = A at *
    generalize mem ks a.1 = b0 at *
    generalize mem ks a.2.1 = b1 at *
    cases b0 <;> cases b1 <;> simp -implicitDefEqProofs [trnL, MP.bind, putO, getB, B.toD, lift, O.toD, boolD, now, stillM, g0, g1, g2, m0, m1]
  have s1 := lc_sum (C := run tab k) (own := [4]) (tg := .nm 4) (it := .dat (.bor 0)) (e := [some (dat (.tuple (as.map (arcR r)))), some (dat (.tuple (il ns))), some (dat (.tuple (nl ks))), none, none, none, none]) (e1 := [some (dat (.tuple (as.map (arcR r)))), some (dat (.tuple (il ns))), some (dat (.tuple (nl ks))), none, none, none, none]) (w := [some (dat (.tuple (as.map (arcR r)))), some (dat (.tuple (il ns))), some (dat (.tuple (nl ks))), none, none, none, none]) as (arcR r) (fun a => !mem ks a.1 && mem ks a.2.1) (fun a => a.2.2) (by simp [getB, B.toD, seqD, stillM]) rfl (fun a ha => ⟨_, tn a none none _, rfl⟩) hl
  have s2 := lc_sum (C := run tab k) (own := [4]) (tg := .nm 4) (it := .dat (.bor 0)) (e := [some (dat (.tuple (as.map (arcR r)))), some (dat (.tuple (il ns))), some (dat (.tuple (nl ks))), some (dat (.int (inL as ks))), none, none, none]) (e1 := [some (dat (.tuple (as.map (arcR r)))), some (dat (.tuple (il ns))), some (dat (.tuple (nl ks))), some (dat (.int (inL as ks))), none, none, none]) (w := [some (dat (.tuple (as.map (arcR r)))), some (dat (.tuple (il ns))), some (dat (.tuple (nl ks))), some (dat (.int (inL as ks))), none, none, none]) as (arcR r) (fun a => mem ks a.1 && !mem ks a.2.1) (fun a => 0) (by simp [getB, B.toD, seqD, stillM]) rfl (fun a ha => ⟨_, tn2 a _ none _, rfl⟩) hl
  rw [sum0] at s2
  have s3 := lc_sum (C := run tab k) (own := [6]) (tg := .nm 6) (it := .dat (.bor 2)) (cs := .nil) (elt := .idx (.bor 1) (.var 6)) (e := [some (dat (.tuple (as.map (arcR r)))), some (dat (.tuple (il ns))), some (dat (.tuple (nl ks))), some (dat (.int (inL as ks))), none, some (dat (.int 0)), none]) (e1 := [some (dat (.tuple (as.map (arcR r)))), some (dat (.tuple (il ns))), some (dat (.tuple (nl ks))), some (dat (.int (inL as ks))), none, some (dat (.int 0)), none]) (w := [some (dat (.tuple (as.map (arcR r)))), some (dat (.tuple (il ns))), some (dat (.tuple (nl ks))), some (dat (.int (inL as ks))), none, some (dat (.int 0)), none]) ks (fun k => .int (k : Int)) (fun _ => true) (fun k => ns.getD k 0) (by simp [getB, B.toD, seqD, stillM]) rfl (fun i hi => by
    have g : idxD (.tuple (il ns)) (.int (i : Int)) = some (.int (ns.getD i 0)) := atD_nat (by
      have := hk i hi
      rw [List.getElem?_map, List.getElem?_eq_getElem this]
      simp [List.getD_eq_getElem?_getD, this])
    refine ⟨[some (dat (.tuple (as.map (arcR r)))), some (dat (.tuple (il ns))), some (dat (.tuple (nl ks))), some (dat (.int (inL as ks))), none, some (dat (.int 0)), some (dat (.int (i : Int)))], ?_, rfl⟩
    generalize PyData.tuple (as.map (arcR r)) = T at *
    generalize PyData.tuple (nl ks) = S at *
    generalize PyData.tuple (il ns) = N at *
    simp -implicitDefEqProofs [trnL, MP.bind, putO, getB, B.toD, lift, O.toD, now, stillM, g]) hkl
  have e3 : ((ks.filter fun _ => true).map fun k => ns.getD k 0).sum = needL ns ks := by rw [List.filter_eq_self.mpr fun _ _ => rfl]; rfl
  rw [e3] at s3
  have e1 : ((as.filter fun a => !mem ks a.1 && mem ks a.2.1).map fun a => a.2.2).sum = inL as ks := rfl
  rw [e1] at s1
  generalize PyData.tuple (as.map (arcR r)) = T at *
  generalize PyData.tuple (nl ks) = S at *
  generalize PyData.tuple (il ns) = N at *
  generalize inL as ks = x at *
  generalize needL ns ks = y at *
  refine call_of rfl (Go.step (e' := [some (dat T), some (dat N), some (dat S), some (dat (.int x)), none, none, none]) ?_ (Go.step (e' := [some (dat T), some (dat N), some (dat S), some (dat (.int x)), none, some (dat (.int 0)), none]) ?_ (Go.ret (o := dat (.bool (decide (x < y)))) (e' := [some (dat T), some (dat N), some (dat S), some (dat (.int x)), none, some (dat (.int 0)), none]) ?_ ⟨rfl, rfl⟩)))
  · show evS _ (.set 3 _) _ = _
    rw [evS_set]
    exact (congrArg (fun z => Option.bind z _) s1).trans rfl
  · rw [evS_set]
    exact (congrArg (fun z => Option.bind z _) s2).trans rfl
  · rw [ev_cmp]
    have s3' : evb (run tab k) (.bi .sum (.lc [6] (.nm 6) (.dat (.bor 2)) .nil (.idx (.bor 1) (.var 6)))) [some (dat T), some (dat N), some (dat S), some (dat (.int x)), none, some (dat (.int 0)), none] = some (.int y, [some (dat T), some (dat N), some (dat S), some (dat (.int x)), none, some (dat (.int 0)), none]) := by
      rw [evb_bi, s3]
      rfl
    rw [s3']
    simp -implicitDefEqProofs [getB, B.toD, lift, O.toD, now, subD, cmpD]
end K57P
set_option linter.all false
set_option maxRecDepth 100000
set_option maxHeartbeats 1000000
namespace K57P
open PySem MP
theorem is_cut (k n s t : Nat) (b : Int) (as : List Arc) (ks : List Nat) (hl : as.length ≤ 1000) (ha : Asc n ks) (hkl : ks.length ≤ 1000) :
    run tab (k + 4) 18 [dat (netD n as), dat (.int (s : Int)), dat (.int (t : Int)), dat (.int b), dat (.tuple (nl ks))] = some ([none, none, none, none, none], dat (.bool (mem ks s && (!mem ks t && decide (crossL as ks < b))))) := by
  rw [r_is_cut]
  have hp := is_places k n ks ha hkl
  have hc := crossing (k + 2) n as ks hl
  have m0 := in_nl (ks := ks) (i := s)
  have m1 := nin_nl (ks := ks) (i := t)
  have g0 : idxD (netD n as) (.int 0) = some (.int (n : Int)) := atD_0
  generalize netD n as = N at *
  generalize PyData.tuple (nl ks) = S at *
  generalize mem ks s = b0 at *
  generalize mem ks t = b1 at *
  generalize crossL as ks = c at *
  refine call_of rfl (Go.ret (o := dat (.bool (b0 && (!b1 && decide (c < b))))) (e' := [some (dat N), some (dat (.int (s : Int))), some (dat (.int (t : Int))), some (dat (.int b)), some (dat S)]) ?_ ⟨rfl, rfl⟩)
  have hlt : cmpD .lt (.int c) (.int b) = some (decide (c < b)) := rfl
  generalize decide (c < b) = b2 at *
  cases b0 <;> cases b1 <;> cases b2 <;> simp -implicitDefEqProofs [f_is_cut, getB, B.toD, lift, O.toD, boolD, now, stillM, evas_of, putBack, hp, hc, m0, m1, g0, hlt]
theorem flow_judge (k n s t : Nat) (b : Int) (as : List Arc) (ks : List Nat) (hl : as.length ≤ 1000) (ha : Asc n ks) (hkl : ks.length ≤ 1000) :
    run tab (k + 5) 19 [.ins "Flow" [], dat (.tuple [netD n as, .int (s : Int), .int (t : Int), .int b]), dat (.tuple [.str "cut", .tuple (nl ks)])] = some ([some (.ins "Flow" []), none, none], dat (.bool (mem ks s && (!mem ks t && decide (crossL as ks < b))))) := by
  rw [r_Flow_judge]
  have hc := is_cut k n s t b as ks hl ha hkl
  have w1 := worded_no (k + 3) "cut" "flow" [.tuple (nl ks)] 2 (by decide)
  have w2 := worded_yes (k + 3) "cut" [.tuple (nl ks)] 2 rfl
  have g1 : idxD (.tuple [.str "cut", .tuple (nl ks)]) (.int 1) = some (.tuple (nl ks)) := atD_1
  generalize (mem ks s && (!mem ks t && decide (crossL as ks < b))) = r at *
  generalize netD n as = N at *
  generalize PyData.tuple (nl ks) = S at *
  generalize PyData.tuple [.str "cut", S] = V at *
  refine call_of rfl (Go.step (e' := [some (.ins "Flow" []), some (dat (.tuple [N, .int (s : Int), .int (t : Int), .int b])), some (dat V), some (dat N), some (dat (.int (s : Int))), some (dat (.int (t : Int))), some (dat (.int b))]) ?_ (Go.ifeF (e' := [some (.ins "Flow" []), some (dat (.tuple [N, .int (s : Int), .int (t : Int), .int b])), some (dat V), some (dat N), some (dat (.int (s : Int))), some (dat (.int (t : Int))), some (dat (.int b))]) ?_ (Go.nil (Go.ret (o := dat (.bool r)) (e' := [some (.ins "Flow" []), some (dat (.tuple [N, .int (s : Int), .int (t : Int), .int b])), some (dat V), some (dat N), some (dat (.int (s : Int))), some (dat (.int (t : Int))), some (dat (.int b))]) ?_ ⟨rfl, rfl⟩))))
  · simp -implicitDefEqProofs [f_Flow_judge, getB, B.toD, lift, O.toD, stillM, MP.bind, putO]
  · simp -implicitDefEqProofs [tst, getB, B.toD, lift, O.toD, boolD, stillM, evas_of, putBack, w1]
  · cases r <;> simp -implicitDefEqProofs [getB, B.toD, lift, O.toD, boolD, now, stillM, evas_of, putBack, w2, g1, hc]
theorem need_judge (k n : Nat) (as : List Arc) (ns : List Int) (ks : List Nat) (hl : as.length ≤ 1000) (ha : Asc n ks) (hkl : ks.length ≤ 1000) (hn : ns.length = n) :
    run tab (k + 4) 20 [.ins "Need" [], dat (.tuple [.tuple [.int (n : Int), .tuple (as.map (arcR []))], .tuple (il ns)]), dat (.tuple [.str "crowd", .tuple (nl ks)])] = some ([some (.ins "Need" []), none, none], dat (.bool (decide (inL as ks < needL ns ks)))) := by
  rw [r_Need_judge]
  have hc := is_crowd (k + 2) n [] as ns ks hl (fun i hi => by rw [hn]; exact ha.1 i hi) hkl
  have hp := is_places k n ks ha hkl
  have w2 := worded_yes (k + 2) "crowd" [.tuple (nl ks)] 2 rfl
  have g1 : idxD (.tuple [.str "crowd", .tuple (nl ks)]) (.int 1) = some (.tuple (nl ks)) := atD_1
  generalize decide (inL as ks < needL ns ks) = r at *
  generalize PyData.tuple (as.map (arcR [])) = A at *
  generalize PyData.tuple (il ns) = N at *
  generalize PyData.tuple (nl ks) = S at *
  generalize PyData.tuple [.str "crowd", S] = V at *
  generalize hD : PyData.tuple [.tuple [.int (n : Int), A], N] = DD
  have hb : MP.bind (.cons (.cons (.nm 3) (.t1 (.nm 4))) (.t1 (.nm 5))) DD [some (.ins "Need" []), some (dat DD), some (dat V), none, none, none, none, none, none] = some [some (.ins "Need" []), some (dat DD), some (dat V), some (dat (.int (n : Int))), some (dat A), some (dat N), none, none, none] := by
    rw [← hD]
    simp [MP.bind, putO]
  refine call_of rfl (Go.step (e' := [some (.ins "Need" []), some (dat DD), some (dat V), some (dat (.int (n : Int))), some (dat A), some (dat N), none, none, none]) ?_ (Go.ifeT (e' := [some (.ins "Need" []), some (dat DD), some (dat V), some (dat (.int (n : Int))), some (dat A), some (dat N), none, none, none]) ?_ (Go.ret (o := dat (.bool r)) (e' := [some (.ins "Need" []), some (dat DD), some (dat V), some (dat (.int (n : Int))), some (dat A), some (dat N), none, none, none]) ?_ ⟨rfl, rfl⟩)))
  · simp -implicitDefEqProofs [f_Need_judge, getB, B.toD, lift, O.toD, stillM, hb]
  · simp -implicitDefEqProofs [tst, getB, B.toD, lift, O.toD, boolD, stillM, evas_of, putBack, w2]
  · cases r <;> simp -implicitDefEqProofs [getB, B.toD, lift, O.toD, boolD, now, stillM, evas_of, putBack, g1, hp, hc]
theorem task_judge (k n : Nat) (as : List Arc) (ns : List Int) (ks : List Nat) (hl : as.length ≤ 1000) (ha : Asc n ks) (hkl : ks.length ≤ 1000) (hn : ns.length = n) :
    run tab (k + 4) 17 [.ins "Task" [], dat (.tuple [.int (n : Int), .tuple (as.map (arcR [.int 0])), .tuple (il ns), .none]), dat (.tuple [.str "crowd", .tuple (nl ks)])] = some ([some (.ins "Task" []), none, none], dat (.bool (decide (inL as ks < needL ns ks)))) := by
  rw [r_Task_judge]
  have hc := is_crowd (k + 2) n [.int 0] as ns ks hl (fun i hi => by rw [hn]; exact ha.1 i hi) hkl
  have hp := is_places k n ks ha hkl
  have w1 := worded_no (k + 2) "crowd" "row" [.tuple (nl ks)] 2 (by decide)
  have w2 := worded_yes (k + 2) "crowd" [.tuple (nl ks)] 2 rfl
  have g1 : idxD (.tuple [.str "crowd", .tuple (nl ks)]) (.int 1) = some (.tuple (nl ks)) := atD_1
  generalize decide (inL as ks < needL ns ks) = r at *
  generalize PyData.tuple (as.map (arcR [.int 0])) = A at *
  generalize PyData.tuple (il ns) = N at *
  generalize PyData.tuple (nl ks) = S at *
  generalize PyData.tuple [.str "crowd", S] = V at *
  generalize hD : PyData.tuple [.int (n : Int), A, N, .none] = DD
  have hb : MP.bind (.cons (.nm 3) (.cons (.nm 4) (.cons (.nm 5) (.t1 (.nm 6))))) DD [some (.ins "Task" []), some (dat DD), some (dat V), none, none, none, none, none] = some [some (.ins "Task" []), some (dat DD), some (dat V), some (dat (.int (n : Int))), some (dat A), some (dat N), some (dat .none), none] := by
    rw [← hD]
    simp [MP.bind, putO]
  refine call_of rfl (Go.step (e' := [some (.ins "Task" []), some (dat DD), some (dat V), some (dat (.int (n : Int))), some (dat A), some (dat N), some (dat .none), none]) ?_ (Go.ifeF (e' := [some (.ins "Task" []), some (dat DD), some (dat V), some (dat (.int (n : Int))), some (dat A), some (dat N), some (dat .none), none]) ?_ (Go.nil (Go.ifeT (e' := [some (.ins "Task" []), some (dat DD), some (dat V), some (dat (.int (n : Int))), some (dat A), some (dat N), some (dat .none), none]) ?_ (Go.ret (o := dat (.bool r)) (e' := [some (.ins "Task" []), some (dat DD), some (dat V), some (dat (.int (n : Int))), some (dat A), some (dat N), some (dat .none), none]) ?_ ⟨rfl, rfl⟩)))))
  · simp -implicitDefEqProofs [f_Task_judge, getB, B.toD, lift, O.toD, stillM, hb]
  · simp -implicitDefEqProofs [tst, getB, B.toD, lift, O.toD, boolD, stillM, evas_of, putBack, w1]
  · simp -implicitDefEqProofs [tst, getB, B.toD, lift, O.toD, boolD, stillM, evas_of, putBack, w2]
  · cases r <;> simp -implicitDefEqProofs [getB, B.toD, lift, O.toD, boolD, now, stillM, evas_of, putBack, g1, hp, hc]
theorem cut1 {x : D} {r : List D} : cutD (x :: r) (some 1) none = r := by
  unfold cutD HT.sIx
  simp
theorem judge (k : Nat) (w cl : Str) (fi : Nat) (rest : List D) (v : D) (o' : O) (r : Bool) (he : (([("flow", ("Flow", 19)), ("need", ("Need", 20)), ("orders", ("Orders", 25)), ("task", ("Task", 17)), ("linear", ("Linear", 23))] : List (Str × (Str × Nat))).lookup w) = some (cl, fi))
    (h : run tab k fi [.ins cl [], dat (.tuple rest), dat v] = some ([some o', none, none], dat (.bool r))) : run tab (k + 1) 26 [dat (.tuple (.str w :: rest)), dat v] = some ([none, none], dat (.bool r)) := by
  rw [r_judge]
  have g0 : idxD (.tuple (.str w :: rest)) (.int 0) = some (.str w) := atD_0
  have s1 : slcD (.tuple (.str w :: rest)) (some 1) none = some (dat (.tuple rest)) := by
    show some (dat (.tuple (cutD (.str w :: rest) (some 1) none))) = _
    rw [cut1]
  generalize PyData.tuple (.str w :: rest) = q at *
  refine call_of rfl (Go.ret (o := dat (.bool r)) (e' := [some (dat q), some (dat v)]) ?_ ⟨rfl, rfl⟩)
  show ev _ (.kcall _ _ _ _ _) _ = _
  rw [ev_kcall]
  generalize [("flow", ("Flow", 19)), ("need", ("Need", 20)), ("orders", ("Orders", 25)), ("task", ("Task", 17)), ("linear", ("Linear", 23))] = tb at *
  simp -implicitDefEqProofs [f_judge, getB, B.toD, lift, O.toD, now, stillM, evas_of, putBack, g0, he, s1, h]
end K57P
set_option linter.all false
set_option maxRecDepth 100000
set_option maxHeartbeats 1000000
namespace K57P
open PySem MP
def dotL (rs xs : List Int) : Int := ((rs.zip xs).map fun z => z.1 * z.2).sum
theorem sum_filter0 {α : Type} {p : α → Bool} {h : α → Int} (h0 : ∀ a, p a = false → h a = 0) : ∀ zs : List α, ((zs.filter p).map h).sum = (zs.map h).sum
  | [] => rfl
  | z :: zs => by
    rw [List.filter_cons]
    cases hp : p z with
    | true => simp [sum_filter0 h0 zs]
    | false => simp [sum_filter0 h0 zs, h0 z hp]
def pairQ (z : Int × Int) : D := .tuple [.int z.1, qi z.2]
theorem zip_q {rs xs : List Int} : (((il rs).zip (xs.map qi)).map fun z => PyData.tuple [z.1, z.2]) = (rs.zip xs).map pairQ := by
  unfold il
  rw [List.zip_map, List.map_map]
  rfl
theorem dot (k : Nat) (R : D) (rs xs : List Int) (hR : R = .list (il rs) ∨ R = .tuple (il rs)) (hx : ∀ x ∈ xs, -10000000000 ≤ x ∧ x ≤ 10000000000) (hl : rs.length ≤ 1000) :
    run tab (k + 4) 22 [dat R, dat (.tuple (xs.map qi))] = some ([none, none], dat (qi (dotL rs xs))) := by
  rw [r_dot]
  have hi : evi (run tab (k + 3)) (.zip (.bor 0) (.bor 1)) [some (dat R), some (dat (.tuple (xs.map qi))), none, none] = some ((rs.zip xs).map pairQ, [some (dat R), some (dat (.tuple (xs.map qi))), none, none]) := by
    rw [evi_zip]
    have z := zip_q (rs := rs) (xs := xs)
    generalize (rs.zip xs).map pairQ = ZZ at *
    rcases hR with rfl | rfl
    · generalize il rs = RR at *
      generalize xs.map qi = XX at *
      simp -implicitDefEqProofs [getB, B.toD, now, stillM, z]
    · generalize il rs = RR at *
      generalize xs.map qi = XX at *
      simp -implicitDefEqProofs [getB, B.toD, now, stillM, z]
  have hlc := lc_lst (C := run tab (k + 3)) (w := [some (dat R), some (dat (.tuple (xs.map qi))), none, none]) (own := [2, 3]) (tg := .cons (.nm 2) (.t1 (.nm 3))) (cs := .cons (.cmp .ne (.bor 2) (.cst (.int 0))) .nil) (elt := .call 12 (.cons (.tup (.cons (.var 2) (.cons (.cst (.int 1)) .nil))) (.cons (.var 3) .nil))) (rs.zip xs) pairQ (fun z => !decide (z.1 = 0)) (fun z => qi (z.1 * z.2)) hi rfl (fun z hz => by
    have hb := hx z.2 (List.of_mem_zip hz).2
    have ht := times (k + 1) z.1 z.2 hb
    refine ⟨[some (dat R), some (dat (.tuple (xs.map qi))), some (dat (.int z.1)), some (dat (qi z.2))], ?_, rfl⟩
    have hq : ev (run tab (k + 3)) (.tup (.cons (.var 2) (.cons (.cst (.int 1)) .nil))) [some (dat R), some (dat (.tuple (xs.map qi))), some (dat (.int z.1)), some (dat (qi z.2))] = some (dat (qi z.1), [some (dat R), some (dat (.tuple (xs.map qi))), some (dat (.int z.1)), some (dat (qi z.2))]) := ev_tup_of (by simp -implicitDefEqProofs [getB, B.toD, lift, O.toD, stillM]) (by simp)
    have hbind : MP.bind (.cons (.nm 2) (.t1 (.nm 3))) (pairQ z) [some (dat R), some (dat (.tuple (xs.map qi))), none, none] = some [some (dat R), some (dat (.tuple (xs.map qi))), some (dat (.int z.1)), some (dat (qi z.2))] := by
      simp [MP.bind, pairQ, putO]
    generalize PyData.tuple (xs.map qi) = X at *
    generalize qi (z.1 * z.2) = q3 at *
    generalize qi z.1 = q1 at *
    generalize qi z.2 = q2 at *
    generalize pairQ z = pq at *
    generalize z.1 = a at *
    by_cases h0 : a = 0
    · simp -implicitDefEqProofs [-ev_tup, trnL, hbind, getB, B.toD, lift, O.toD, boolD, now, ne_int, h0]
    · simp -implicitDefEqProofs [-ev_tup, trnL, hbind, getB, B.toD, lift, O.toD, boolD, now, stillM, evas_of, putBack, ne_int, h0, hq, ht]) (by rw [List.length_zip]; omega)
  have e1 : ((rs.zip xs).filter fun z => !decide (z.1 = 0)).map (fun z => qi (z.1 * z.2)) = (((rs.zip xs).filter fun z => !decide (z.1 = 0)).map fun z => z.1 * z.2).map qi := by rw [List.map_map]; rfl
  have e2 : (((rs.zip xs).filter fun z => !decide (z.1 = 0)).map fun z => z.1 * z.2).sum = dotL rs xs := sum_filter0 (fun z hz => by
    have : z.1 = 0 := by simpa using hz
    rw [this, Int.zero_mul]) _
  have ht := total k (.list ((((rs.zip xs).filter fun z => !decide (z.1 = 0)).map fun z => z.1 * z.2).map qi)) _ rfl
  rw [e2] at ht
  rw [e1] at hlc
  generalize (((rs.zip xs).filter fun z => !decide (z.1 = 0)).map fun z => z.1 * z.2).map qi = L at *
  generalize PyData.tuple (xs.map qi) = X at *
  generalize qi (dotL rs xs) = q at *
  refine call_of rfl (Go.ret (o := dat q) (e' := [some (dat R), some (dat X), none, none]) ?_ ⟨rfl, rfl⟩)
  show ev _ (.call 14 _) _ = _
  rw [ev_call, evas_of (fun i z => by cases z)]
  show (((lift (ev (run tab (k + 3)) (.lc [2, 3] _ _ _ _) [some (dat R), some (dat X), none, none])).bind _).bind _) = _
  rw [hlc]
  simp -implicitDefEqProofs [lift, O.toD, B.toD, putBack, ht]
def lpv (a b f : Int) : Int := if a * f < b * f then a * f else b * f
theorem least_product (k : Nat) (a b f : Int) (hf : -10000000000 ≤ f ∧ f ≤ 10000000000) : run tab (k + 3) 21 [dat (.int a), dat (.int b), dat (qi f)] = some ([none, none, none], dat (qi (lpv a b f))) := by
  rw [r_least_product]
  have t1 := times k a f hf
  have t2 := times k b f hf
  have l := is_less (k + 1) (a * f) (b * f)
  have h1 : ∀ e : Env', ev (run tab (k + 2)) (.tup (.cons (.var 0) (.cons (.cst (.int 1)) .nil))) (some (dat (.int a)) :: e) = some (dat (qi a), some (dat (.int a)) :: e) := fun e => ev_tup_of (by simp -implicitDefEqProofs [getB, B.toD, lift, O.toD, stillM]) (by simp)
  have h2 : ∀ (x : Option O) (e : Env'), ev (run tab (k + 2)) (.tup (.cons (.var 1) (.cons (.cst (.int 1)) .nil))) (x :: some (dat (.int b)) :: e) = some (dat (qi b), x :: some (dat (.int b)) :: e) := fun x e => ev_tup_of (by simp -implicitDefEqProofs [getB, B.toD, lift, O.toD, stillM]) (by simp)
  have hr : qi (lpv a b f) = if decide (a * f < b * f) = true then qi (a * f) else qi (b * f) := by
    unfold lpv
    by_cases h : a * f < b * f <;> simp [h]
  rw [hr]
  generalize decide (a * f < b * f) = c at *
  generalize qi (a * f) = q1 at *
  generalize qi (b * f) = q2 at *
  generalize qi f = qf at *
  generalize qi a = qa at *
  generalize qi b = qb at *
  refine call_of rfl (Go.step (e' := [some (dat (.int a)), some (dat (.int b)), some (dat qf), some (dat q1), some (dat q2)]) ?_ (Go.ret (o := dat (if c = true then q1 else q2)) (e' := [some (dat (.int a)), some (dat (.int b)), some (dat qf), some (dat q1), some (dat q2)]) ?_ ⟨rfl, rfl⟩))
  · simp -implicitDefEqProofs [-ev_tup, f_least_product, getB, B.toD, lift, O.toD, stillM, evas_of, putBack, putAll, putO, noIns, h1, h2, t1, t2]
  · cases c <;> simp -implicitDefEqProofs [getB, B.toD, lift, O.toD, boolD, stillM, evas_of, putBack, l]
end K57P
set_option linter.all false
set_option maxRecDepth 100000
set_option maxHeartbeats 2000000
namespace K57P
open PySem MP
def col (rws : List (List Int)) (i : Nat) : List Int := rws.map fun r => r.getD i 0
def linT (rws : List (List Int)) (cs xs : List Int) (i : Nat) : Int := lpv 0 (cs.getD i 0) (0 * 0 - dotL (col rws i) xs)
def linF (rws : List (List Int)) (ns cs xs : List Int) (m : Nat) : Int := dotL ns xs + ((List.range m).map (linT rws cs xs)).sum
def linV (xs : List Int) : D := .tuple [.str "weights", .tuple (xs.map qi), qi 0]
theorem linear_judge (k n m : Nat) (rws : List (List Int)) (ns cs xs : List Int) (h1 : rws.length = n) (h2 : ns.length = n) (h3 : xs.length = n) (h4 : cs.length = m) (hr : ∀ r ∈ rws, r.length = m) (hn : n ≤ 1000) (hm : m ≤ 1000)
    (hx : ∀ x ∈ xs, -10000000000 ≤ x ∧ x ≤ 10000000000) (hb : ∀ i, i < m → -10000000000 ≤ 0 * 0 - dotL (col rws i) xs ∧ 0 * 0 - dotL (col rws i) xs ≤ 10000000000) :
    run tab (k + 5) 23 [.ins "Linear" [], dat (.tuple [.tuple (rws.map fun r => .tuple (il r)), .tuple (il ns), .tuple (il (List.replicate m 0)), .tuple (il cs), .tuple (il (List.replicate m 0)), .none]), dat (linV xs)] =
      some ([some (.ins "Linear" []), none, none], dat (.bool (decide (0 < linF rws ns cs xs m)))) := by
  rw [r_Linear_judge]
  have w1 := worded_no (k + 3) "weights" "point" [.tuple (xs.map qi), qi 0] 2 (by decide)
  have w2 := worded_yes (k + 3) "weights" [.tuple (xs.map qi), qi 0] 3 rfl
  have qr := is_quotient_row k xs (n : Int) (by rw [h3])
  have q1 := is_quotient (k + 1) 0
  have d0 := dot k (.tuple (il ns)) ns xs (.inr rfl) hx (by omega)
  have less : ∀ F : Int, run tab (k + 4) 13 [dat (qi 0), dat (qi F)] = some ([none, none], dat (.bool (decide (0 < F)))) := fun F => is_less (k + 3) 0 F
  have g1 : idxD (linV xs) (.int 1) = some (.tuple (xs.map qi)) := atD_1
  have g2 : idxD (linV xs) (.int 2) = some (qi 0) := atD_2
  have z0 := qi0 (x := 0)
  have lenR : biD .len (.tuple (rws.map fun r => .tuple (il r))) = some (dat (.int (n : Int))) := by simp [biD, h1]
  have lenL : biD .len (.tuple (il (List.replicate m 0))) = some (dat (.int (m : Int))) := by simp [biD]
  have hcomp : ∀ i, i < m → ∀ (o10 o12 : Option O) (D V NS LO HI CO q0 : MP.D), ev (run tab (k + 4)) (.lc [13] (.nm 13) (.dat (.bor 3)) .nil (.idx (.bor 13) (.var 11))) [some (.ins "Linear" []), some (dat D), some (dat V), some (dat (.tuple (rws.map fun r => .tuple (il r)))), some (dat NS), some (dat LO), some (dat HI), some (dat CO), some (dat .none), some (dat q0), o10, some (dat (.int (i : Int))), o12, none] =
      some (.b (.lst (il (col rws i))), [some (.ins "Linear" []), some (dat D), some (dat V), some (dat (.tuple (rws.map fun r => .tuple (il r)))), some (dat NS), some (dat LO), some (dat HI), some (dat CO), some (dat .none), some (dat q0), o10, some (dat (.int (i : Int))), o12, none]) := fun i hi o10 o12 D V NS LO HI CO q0 => by
    have := lc_lst (C := run tab (k + 4)) (own := [13]) (tg := .nm 13) (it := .dat (.bor 3)) (cs := .nil) (elt := .idx (.bor 13) (.var 11)) (e := [some (.ins "Linear" []), some (dat D), some (dat V), some (dat (.tuple (rws.map fun r => .tuple (il r)))), some (dat NS), some (dat LO), some (dat HI), some (dat CO), some (dat .none), some (dat q0), o10, some (dat (.int (i : Int))), o12, none]) (e1 := [some (.ins "Linear" []), some (dat D), some (dat V), some (dat (.tuple (rws.map fun r => .tuple (il r)))), some (dat NS), some (dat LO), some (dat HI), some (dat CO), some (dat .none), some (dat q0), o10, some (dat (.int (i : Int))), o12, none]) (w := [some (.ins "Linear" []), some (dat D), some (dat V), some (dat (.tuple (rws.map fun r => .tuple (il r)))), some (dat NS), some (dat LO), some (dat HI), some (dat CO), some (dat .none), some (dat q0), o10, some (dat (.int (i : Int))), o12, none]) rws (fun r => .tuple (il r)) (fun _ => true) (fun r => .int (r.getD i 0)) (by
        generalize rws.map (fun r => PyData.tuple (il r)) = T
        simp -implicitDefEqProofs [getB, B.toD, seqD, stillM]) rfl (fun r hr' => by
        have g : idxD (.tuple (il r)) (.int (i : Int)) = some (.int (r.getD i 0)) := atD_nat (by
          have := hr r hr'
          rw [List.getElem?_map, List.getElem?_eq_getElem (by omega)]
          simp [List.getD_eq_getElem?_getD, show i < r.length by omega])
        refine ⟨[some (.ins "Linear" []), some (dat D), some (dat V), some (dat (.tuple (rws.map fun r => .tuple (il r)))), some (dat NS), some (dat LO), some (dat HI), some (dat CO), some (dat .none), some (dat q0), o10, some (dat (.int (i : Int))), o12, some (dat (.tuple (il r)))], ?_, rfl⟩
        generalize PyData.tuple (il r) = RR at *
        generalize PyData.tuple (rws.map fun r => PyData.tuple (il r)) = T at *
        simp -implicitDefEqProofs [trnL, MP.bind, putO, getB, B.toD, lift, O.toD, now, stillM, g]) (by omega)
    rw [this, List.filter_eq_self.mpr fun _ _ => rfl]
    unfold col il
    rw [List.map_map]
    rfl
  have gLO : ∀ i, i < m → idxD (.tuple (il (List.replicate m 0))) (.int (i : Int)) = some (.int 0) := fun i hi => atD_nat (by simp [hi])
  have gHI : ∀ i, i < m → idxD (.tuple (il cs)) (.int (i : Int)) = some (.int (cs.getD i 0)) := fun i hi => atD_nat (by
    rw [List.getElem?_map, List.getElem?_eq_getElem (by omega)]
    simp [List.getD_eq_getElem?_getD, show i < cs.length by omega])
  have dcol : ∀ i, i < m → run tab (k + 4) 22 [dat (.list (il (col rws i))), dat (.tuple (xs.map qi))] = some ([none, none], dat (qi (dotL (col rws i) xs))) := fun i hi => dot k _ _ xs (.inl rfl) hx (by unfold col; rw [List.length_map]; omega)
  have tz : run tab (k + 4) 12 [dat (qi 0), dat (qi 0)] = some ([none, none], dat (qi (0 * 0))) := times (k + 2) 0 0 (by omega)
  have mn : ∀ y : Int, run tab (k + 4) 11 [dat (qi (0 * 0)), dat (qi y)] = some ([none, none], dat (qi (0 * 0 - y))) := fun y => minus (k + 2) (0 * 0) y
  have lp : ∀ i, i < m → run tab (k + 4) 21 [dat (.int 0), dat (.int (cs.getD i 0)), dat (qi (0 * 0 - dotL (col rws i) xs))] = some ([none, none, none], dat (qi (linT rws cs xs i))) := fun i hi => least_product (k + 1) 0 (cs.getD i 0) _ (hb i hi)
  have pl : ∀ x y : Int, run tab (k + 4) 10 [dat (qi x), dat (qi y)] = some ([none, none], dat (qi (x + y))) := fun x y => plus (k + 2) x y
  have hS : ∀ i, i < m → dotL ns xs + ((List.range i).map (linT rws cs xs)).sum + linT rws cs xs i = dotL ns xs + ((List.range (i + 1)).map (linT rws cs xs)).sum := fun i _ => by
    rw [List.range_succ, List.map_append, List.sum_append]
    simp
    omega
  have hF : linF rws ns cs xs m = dotL ns xs + ((List.range m).map (linT rws cs xs)).sum := rfl
  rw [hF]
  have hF0 : qi (dotL ns xs) = qi (dotL ns xs + ((List.range 0).map (linT rws cs xs)).sum) := by simp
  have qtup : ∀ (e e' : Env') (m1 : M), lift (ev (run tab (k + 4)) m1 e) = some (.int 0, e') → ev (run tab (k + 4)) (.tup (.cons m1 (.cons (.cst (.int 1)) .nil))) e = some (dat (qi 0), e') := fun e e' m1 h => ev_tup_of (ds := [.int 0, .int 1]) (by rw [evs_cons, h]; simp -implicitDefEqProofs [lift, O.toD, B.toD]) (by simp)
  generalize hLV : linV xs = V at *
  have hV2 : PyData.tuple (.str "weights" :: [.tuple (xs.map qi), qi 0]) = V := hLV
  rw [hV2] at w1 w2
  clear hV2
  generalize PyData.tuple (xs.map qi) = X at *
  generalize PyData.tuple (rws.map fun r => .tuple (il r)) = RW at *
  generalize PyData.tuple (il ns) = NS at *
  generalize hLO : PyData.tuple (il (List.replicate m 0)) = LO at *
  generalize PyData.tuple (il cs) = HI at *
  generalize hDD : PyData.tuple [RW, NS, LO, HI, LO, .none] = DD
  have hbind : MP.bind (.cons (.nm 3) (.cons (.nm 4) (.cons (.nm 5) (.cons (.nm 6) (.cons (.nm 7) (.t1 (.nm 8))))))) DD [some (.ins "Linear" []), some (dat DD), some (dat V), none, none, none, none, none, none, none, none, none, none, none] = some [some (.ins "Linear" []), some (dat DD), some (dat V), some (dat RW), some (dat NS), some (dat LO), some (dat HI), some (dat LO), some (dat .none), none, none, none, none, none] := by
    rw [← hDD]
    simp [MP.bind, putO]
  clear hDD
  generalize hq0 : qi 0 = q0 at *
  refine call_of rfl (Go.step (e' := [some (.ins "Linear" []), some (dat DD), some (dat V), some (dat RW), some (dat NS), some (dat LO), some (dat HI), some (dat LO), some (dat .none), none, none, none, none, none]) ?_ (Go.ifeF (e' := [some (.ins "Linear" []), some (dat DD), some (dat V), some (dat RW), some (dat NS), some (dat LO), some (dat HI), some (dat LO), some (dat .none), none, none, none, none, none]) ?_ (Go.nil (Go.ifeF (e' := [some (.ins "Linear" []), some (dat DD), some (dat V), some (dat RW), some (dat NS), some (dat LO), some (dat HI), some (dat LO), some (dat .none), none, none, none, none, none]) ?_ (Go.nil (Go.step (e' := [some (.ins "Linear" []), some (dat DD), some (dat V), some (dat RW), some (dat NS), some (dat LO), some (dat HI), some (dat LO), some (dat .none), some (dat q0), none, none, none, none]) ?_ (Go.ifeF (e' := [some (.ins "Linear" []), some (dat DD), some (dat V), some (dat RW), some (dat NS), some (dat LO), some (dat HI), some (dat LO), some (dat .none), some (dat q0), none, none, none, none]) ?_ (Go.nil (Go.step (e' := [some (.ins "Linear" []), some (dat DD), some (dat V), some (dat RW), some (dat NS), some (dat LO), some (dat HI), some (dat LO), some (dat .none), some (dat q0), some (dat (qi (dotL ns xs + ((List.range 0).map (linT rws cs xs)).sum))), none, none, none]) ?_ (Go.forr (xs := rngD 0 m) (e1 := [some (.ins "Linear" []), some (dat DD), some (dat V), some (dat RW), some (dat NS), some (dat LO), some (dat HI), some (dat LO), some (dat .none), some (dat q0), some (dat (qi (dotL ns xs + ((List.range 0).map (linT rws cs xs)).sum))), none, none, none])
    (fun i e => ∃ o11 o12, e = [some (.ins "Linear" []), some (dat DD), some (dat V), some (dat RW), some (dat NS), some (dat LO), some (dat HI), some (dat LO), some (dat .none), some (dat q0), some (dat (qi (dotL ns xs + ((List.range i).map (linT rws cs xs)).sum))), o11, o12, none]) ?_ ⟨none, none, rfl⟩ ?_ ?_))))))))))
  · simp -implicitDefEqProofs [f_Linear_judge, getB, B.toD, lift, O.toD, stillM, hbind]
  · simp -implicitDefEqProofs [tst, getB, B.toD, lift, O.toD, boolD, stillM, evas_of, putBack, w1]
  · simp -implicitDefEqProofs [tst, getB, B.toD, lift, O.toD, boolD, now, stillM, evas_of, putBack, w2, g1, g2, lenR, qr, q1]
  · simp -implicitDefEqProofs [getB, B.toD, lift, O.toD, now, stillM, putO, g2]
  · simp -implicitDefEqProofs [tst, getB, B.toD, lift, O.toD, boolD, now, stillM, z0, cmpD, eqOk, PyData.eqv]
  · rw [← hF0]
    generalize qi (dotL ns xs) = qd at *
    simp -implicitDefEqProofs [getB, B.toD, lift, O.toD, now, stillM, evas_of, putBack, putO, g1, d0]
  · refine evi_rng_of hm ?_
    simp -implicitDefEqProofs [getB, B.toD, lift, O.toD, lenL]
  · intro i y e hy he
    obtain ⟨o11, o12, rfl⟩ := he
    obtain ⟨hi, rfl⟩ := rng_at hy
    have c1 := hcomp i hi
    have c2 := gLO i hi
    have c3 := gHI i hi
    have c4 := dcol i hi
    have c5 := lp i hi
    have c6 := pl (dotL ns xs + ((List.range i).map (linT rws cs xs)).sum) (linT rws cs xs i)
    have c7 := mn (dotL (col rws i) xs)
    rw [hS i hi] at c6
    generalize qi (dotL ns xs + ((List.range i).map (linT rws cs xs)).sum) = qs at *
    generalize qi (dotL ns xs + ((List.range (i + 1)).map (linT rws cs xs)).sum) = qs' at *
    generalize qi (linT rws cs xs i) = ql at *
    generalize qi (0 * 0 - dotL (col rws i) xs) = qf at *
    generalize qi (dotL (col rws i) xs) = qc at *
    generalize qi (0 * 0) = qz at *
    generalize il (col rws i) = cc at *
    generalize cs.getD i 0 = ci at *
    refine ⟨[some (.ins "Linear" []), some (dat DD), some (dat V), some (dat RW), some (dat NS), some (dat LO), some (dat HI), some (dat LO), some (dat .none), some (dat q0), some (dat qs), some (dat (.int (i : Int))), o12, none], by simp -implicitDefEqProofs [MP.bind, putO], Go.step (e' := [some (.ins "Linear" []), some (dat DD), some (dat V), some (dat RW), some (dat NS), some (dat LO), some (dat HI), some (dat LO), some (dat .none), some (dat q0), some (dat qs), some (dat (.int (i : Int))), some (dat qf), none]) ?_ (Go.step (e' := [some (.ins "Linear" []), some (dat DD), some (dat V), some (dat RW), some (dat NS), some (dat LO), some (dat HI), some (dat LO), some (dat .none), some (dat q0), some (dat qs'), some (dat (.int (i : Int))), some (dat qf), none]) ?_ (Go.nil ⟨rfl, _, _, rfl⟩))⟩
    · have ht := qtup [some (.ins "Linear" []), some (dat DD), some (dat V), some (dat RW), some (dat NS), some (dat LO), some (dat HI), some (dat LO), some (dat .none), some (dat q0), some (dat qs), some (dat (.int (i : Int))), o12, none] [some (.ins "Linear" []), some (dat DD), some (dat V), some (dat RW), some (dat NS), some (dat LO), some (dat HI), some (dat LO), some (dat .none), some (dat q0), some (dat qs), some (dat (.int (i : Int))), o12, none] (.idx (.bor 7) (.var 11)) (by simp -implicitDefEqProofs [getB, B.toD, lift, O.toD, now, stillM, c2])
      simp -implicitDefEqProofs [-ev_tup, -ev_lc, getB, B.toD, lift, O.toD, now, stillM, evas_of, putBack, putO, ht, tz, c1, g1, c4, c7]
    · simp -implicitDefEqProofs [getB, B.toD, lift, O.toD, now, stillM, evas_of, putBack, putO, c2, c3, c5, c6]
  · intro e2 he
    obtain ⟨o11, o12, rfl⟩ := he
    rw [rng_len]
    have hl := less (dotL ns xs + ((List.range m).map (linT rws cs xs)).sum)
    generalize dotL ns xs + ((List.range m).map (linT rws cs xs)).sum = F at *
    have ht := qtup [some (.ins "Linear" []), some (dat DD), some (dat V), some (dat RW), some (dat NS), some (dat LO), some (dat HI), some (dat LO), some (dat .none), some (dat q0), some (dat (qi F)), o11, o12, none] [some (.ins "Linear" []), some (dat DD), some (dat V), some (dat RW), some (dat NS), some (dat LO), some (dat HI), some (dat LO), some (dat .none), some (dat q0), some (dat (qi F)), o11, o12, none] (.cst (.int 0)) (by simp -implicitDefEqProofs [lift, O.toD, B.toD])
    generalize qi F = qF at *
    refine Go.ret (o := dat (.bool (decide (0 < F)))) (e' := [some (.ins "Linear" []), some (dat DD), some (dat V), some (dat RW), some (dat NS), some (dat LO), some (dat HI), some (dat LO), some (dat .none), some (dat q0), some (dat qF), o11, o12, none]) ?_ ⟨rfl, rfl⟩
    simp -implicitDefEqProofs [-ev_tup, getB, B.toD, lift, O.toD, boolD, now, stillM, evas_of, putBack, ht, hl]
end K57P
set_option linter.all false
set_option maxRecDepth 100000
set_option maxHeartbeats 1000000
namespace K57P
open PySem MP
theorem nodup_le : ∀ {n : Nat} {l : List Nat}, l.Nodup → (∀ x ∈ l, x < n) → l.length ≤ n
  | 0, l, _, h => by
    cases l with
    | nil => exact Nat.le_refl _
    | cons x l => exact absurd (h x List.mem_cons_self) (Nat.not_lt_zero _)
  | n + 1, l, nd, h => by
    have ih := nodup_le (n := n) (nd.erase n) fun x hx => by
      have h1 := h x (List.mem_of_mem_erase hx)
      have h2 : x ≠ n := ((nd.mem_erase_iff).mp hx).1
      omega
    by_cases hn : n ∈ l
    · rw [List.length_erase_of_mem hn] at ih
      omega
    · rw [List.erase_of_not_mem hn] at ih
      omega
/-- a dict of distances -/
def kvD (kv : List (Nat × Int)) : List (D × D) := kv.map fun p => (.int (p.1 : Int), qi p.2)
def lkv (kv : List (Nat × Int)) (v : Nat) : Option Int := (kv.find? fun p => p.1 == v).map (·.2)
def put (kv : List (Nat × Int)) (v : Nat) (x : Int) : List (Nat × Int) := if (kv.any fun p => p.1 == v) = true then kv.map (fun p => if p.1 == v then (p.1, x) else p) else kv ++ [(v, x)]
theorem keq {i v : Nat} : keyEq (.int (i : Int)) (.int (v : Int)) = (i == v) := by
  unfold keyEq
  by_cases h : i = v
  · simp [h]
  · have : ¬ (i : Int) = (v : Int) := by omega
    simp [h, this]
theorem lookK_kv {kv : List (Nat × Int)} {v : Nat} : lookK (kvD kv) (.int (v : Int)) = (lkv kv v).map qi := by
  unfold lookK lkv kvD
  induction kv with
  | nil => rfl
  | cons p kv ih =>
    rw [List.map_cons, List.find?_cons, List.find?_cons, keq]
    cases p.1 == v with
    | true => rfl
    | false => exact ih
theorem putK_kv {kv : List (Nat × Int)} {v : Nat} {x : Int} : putKD (kvD kv) (.int (v : Int)) (qi x) = kvD (put kv v x) := by
  unfold putKD put
  have ha : ((kvD kv).any fun q => keyEq q.1 (.int (v : Int))) = kv.any fun p => p.1 == v := by
    unfold kvD
    rw [List.any_map]
    congr 1
    funext p
    exact keq
  rw [ha]
  cases h : kv.any fun p => p.1 == v with
  | true =>
    rw [if_pos rfl, if_pos rfl]
    unfold kvD
    rw [List.map_map, List.map_map]
    congr 1
    funext p
    show (if keyEq (.int (p.1 : Int)) (.int (v : Int)) = true then _ else _) = _
    rw [keq]
    show _ = (PyData.int (((if p.1 == v then (p.1, x) else p) : Nat × Int).1 : Int), qi ((if p.1 == v then (p.1, x) else p) : Nat × Int).2)
    cases p.1 == v <;> rfl
  | false =>
    rw [if_neg (by decide), if_neg (by decide)]
    unfold kvD
    rw [List.map_append]
    rfl
/-- what is known of the distances: sd a side, s the start -/
structure FarOk (n : Nat) (sd : List Nat) (s : Nat) (kv : List (Nat × Int)) : Prop where
  nd : (kv.map (·.1)).Nodup
  lt : ∀ p ∈ kv, p.1 < n
  ge : ∀ p ∈ kv, 0 ≤ p.2 ∧ p.2 + 1 ≤ kv.length
  sep : ∀ p ∈ kv, mem sd p.1 ≠ mem sd s → 1 ≤ p.2
theorem FarOk.len {n : Nat} {sd : List Nat} {s : Nat} {kv : List (Nat × Int)} (F : FarOk n sd s kv) : kv.length ≤ n := by
  have := nodup_le F.nd fun x hx => by
    obtain ⟨p, hp, rfl⟩ := List.mem_map.mp hx
    exact F.lt p hp
  simpa using this
theorem lkv_some {kv : List (Nat × Int)} {v : Nat} {x : Int} (h : lkv kv v = some x) : (v, x) ∈ kv := by
  unfold lkv at h
  obtain ⟨p, hp, rfl⟩ := Option.map_eq_some_iff.mp h
  have h1 := List.mem_of_find?_eq_some hp
  have h2 : (p.1 == v) = true := by have := List.find?_some hp; simpa using this
  rw [← beq_iff_eq.mp h2]
  exact h1
theorem lkv_none {kv : List (Nat × Int)} {v : Nat} (h : lkv kv v = none) : v ∉ kv.map (·.1) := by
  unfold lkv at h
  rw [Option.map_eq_none_iff, List.find?_eq_none] at h
  intro hv
  obtain ⟨p, hp, rfl⟩ := List.mem_map.mp hv
  exact h p hp (by simp)
theorem FarOk.put {n : Nat} {sd : List Nat} {s : Nat} {kv : List (Nat × Int)} (F : FarOk n sd s kv) {one two : Nat} {x l : Int} (h1 : (one, x) ∈ kv) (h2 : two < n) (hl : 0 ≤ l ∧ l ≤ 1) (hs : mem sd one ≠ mem sd two → 1 ≤ l) (ho : lkv kv two = none ∨ ∃ y, lkv kv two = some y ∧ x + l < y) :
    FarOk n sd s (put kv two (x + l)) := by
  obtain ⟨g1, g2⟩ := F.ge _ h1
  have sp : mem sd two ≠ mem sd s → 1 ≤ x + l := fun z => by
    by_cases q : mem sd one = mem sd s
    · have := hs (fun w => z (w.symm.trans q))
      omega
    · have := F.sep _ h1 q
      have this : 1 ≤ x := this
      omega
  have g1 : 0 ≤ x := g1
  have g2 : x + 1 ≤ kv.length := g2
  rcases ho with ho | ⟨y, ho, hy⟩
  · have hn := lkv_none ho
    have ha : (kv.any fun p => p.1 == two) = false := by
      rw [List.any_eq_false]
      intro p hp hq
      exact hn (List.mem_map.mpr ⟨p, hp, by simpa using hq⟩)
    have e : K57P.put kv two (x + l) = kv ++ [(two, x + l)] := by
      unfold K57P.put
      rw [ha]
      rfl
    rw [e]
    refine ⟨?_, fun p hp => ?_, fun p hp => ?_, fun p hp => ?_⟩
    · rw [List.map_append, List.nodup_append]
      refine ⟨F.nd, by simp, fun u hu b hb z => ?_⟩
      have : b = two := by simpa using hb
      rw [z, this] at hu
      exact hn hu
    · rcases List.mem_append.mp hp with hp | hp
      · exact F.lt p hp
      · rw [List.mem_singleton] at hp
        subst hp
        exact h2
    · rw [List.length_append]
      rcases List.mem_append.mp hp with hp | hp
      · have := F.ge p hp
        exact ⟨this.1, by simp; omega⟩
      · rw [List.mem_singleton] at hp
        subst hp
        exact ⟨by show 0 ≤ x + l; omega, by simp; omega⟩
    · rcases List.mem_append.mp hp with hp | hp
      · exact F.sep p hp
      · rw [List.mem_singleton] at hp
        subst hp
        exact sp
  · have hm := lkv_some ho
    have ha : (kv.any fun p => p.1 == two) = true := List.any_eq_true.mpr ⟨_, hm, by simp⟩
    have e : K57P.put kv two (x + l) = kv.map fun p => if p.1 == two then (p.1, x + l) else p := by
      unfold K57P.put
      rw [ha]
      rfl
    have gy := F.ge _ hm
    have gy : 0 ≤ y ∧ y + 1 ≤ kv.length := gy
    rw [e]
    have key : ∀ q ∈ kv.map (fun p => if p.1 == two then (p.1, x + l) else p), (q ∈ kv) ∨ q = (two, x + l) := fun q hq => by
      obtain ⟨p, hp, rfl⟩ := List.mem_map.mp hq
      by_cases z : p.1 = two
      · right
        simp [z]
      · left
        simp [z, hp]
    refine ⟨?_, fun p hp => ?_, fun p hp => ?_, fun p hp => ?_⟩
    · rw [List.map_map]
      have : ((fun p : Nat × Int => p.1) ∘ fun p => if p.1 == two then (p.1, x + l) else p) = fun p => p.1 := by
        funext p
        show ((if p.1 == two then (p.1, x + l) else p) : Nat × Int).1 = p.1
        cases p.1 == two <;> rfl
      rw [this]
      exact F.nd
    · rcases key p hp with hp | rfl
      · exact F.lt p hp
      · exact h2
    · rw [List.length_map]
      rcases key p hp with hp | rfl
      · exact F.ge p hp
      · exact ⟨by show 0 ≤ x + l; omega, by show x + l + 1 ≤ _; omega⟩
    · rcases key p hp with hp | rfl
      · exact F.sep p hp
      · exact sp
/-! one way along a tie -/
def b_way : Ss := (.cons (.ife (.inD false (.var 10) 4) (.cons (.set 12 (.call 10 (.cons (.getD 4 (.var 10)) (.cons (.var 9) .nil)))) (.cons (.ife (.or (.cons (.inD true (.var 11) 4) (.cons (.call 13 (.cons (.var 12) (.cons (.getD 4 (.var 11)) .nil))) .nil))) (.cons (.dput 4 (.var 11) (.var 12)) .nil) .nil) .nil)) .nil) .nil)
theorem way (k n s : Nat) (sd : List Nat) (T LS : D) (kv : List (Nat × Int)) (one two : Nat) (l : Int) (o5 o6 o7 o8 o12 : Option O) (F : FarOk n sd s kv) (hn : n ≤ 900) (h2 : two < n) (hl : 0 ≤ l ∧ l ≤ 1) (hs : mem sd one ≠ mem sd two → 1 ≤ l) :
    Go (run tab (k + 2)) b_way [some (dat (.int (n : Int))), some (dat T), some (dat LS), some (dat (.int (s : Int))), some (.b (.dct (kvD kv))), o5, o6, o7, o8, some (dat (qi l)), some (dat (.int (one : Int))), some (dat (.int (two : Int))), o12, none] fun fl e2 => fl = .nx ∧ ∃ kv' o12', e2 = [some (dat (.int (n : Int))), some (dat T), some (dat LS), some (dat (.int (s : Int))), some (.b (.dct (kvD kv'))), o5, o6, o7, o8, some (dat (qi l)), some (dat (.int (one : Int))), some (dat (.int (two : Int))), o12', none] ∧ FarOk n sd s kv' := by
  have L1 := lookK_kv (kv := kv) (v := one)
  have L2 := lookK_kv (kv := kv) (v := two)
  have hlen : (kvD kv).length < 1000 := by have := F.len; unfold kvD; rw [List.length_map]; omega
  unfold b_way
  cases q1 : lkv kv one with
  | none =>
    rw [q1] at L1
    refine Go.ifeF (e' := [some (dat (.int (n : Int))), some (dat T), some (dat LS), some (dat (.int (s : Int))), some (.b (.dct (kvD kv))), o5, o6, o7, o8, some (dat (qi l)), some (dat (.int (one : Int))), some (dat (.int (two : Int))), o12, none]) ?_ (Go.nil (Go.nil ⟨rfl, kv, o12, rfl, F⟩))
    generalize kvD kv = KV at *
    generalize qi l = ql at *
    simp -implicitDefEqProofs [tst, getB, B.toD, lift, O.toD, boolD, stillM, dctAt, isKey, L1]
  | some x =>
    rw [q1] at L1
    have m1 := lkv_some q1
    have hp := plus k x l
    have done : (lkv kv two = none ∨ ∃ y, lkv kv two = some y ∧ x + l < y) → FarOk n sd s (put kv two (x + l)) := fun h => F.put m1 h2 hl hs h
    have P := putK_kv (kv := kv) (v := two) (x := x + l)
    have hless : ∀ y : Int, run tab (k + 2) 13 [dat (qi (x + l)), dat (qi y)] = some ([none, none], dat (.bool (decide (x + l < y)))) := fun y => is_less (k + 1) (x + l) y
    refine Go.ifeT (e' := [some (dat (.int (n : Int))), some (dat T), some (dat LS), some (dat (.int (s : Int))), some (.b (.dct (kvD kv))), o5, o6, o7, o8, some (dat (qi l)), some (dat (.int (one : Int))), some (dat (.int (two : Int))), o12, none]) ?_ (Go.step (e' := [some (dat (.int (n : Int))), some (dat T), some (dat LS), some (dat (.int (s : Int))), some (.b (.dct (kvD kv))), o5, o6, o7, o8, some (dat (qi l)), some (dat (.int (one : Int))), some (dat (.int (two : Int))), some (dat (qi (x + l))), none]) ?_ ?_)
    · generalize kvD kv = KV at *
      generalize qi l = ql at *
      simp -implicitDefEqProofs [tst, getB, B.toD, lift, O.toD, boolD, stillM, dctAt, isKey, L1]
    · have L1 : lookK (kvD kv) (.int (one : Int)) = some (qi x) := L1
      generalize kvD kv = KV at *
      generalize qi l = ql at *
      generalize qi (x + l) = qr at *
      generalize qi x = qx at *
      simp -implicitDefEqProofs [getB, B.toD, lift, O.toD, stillM, evas_of, putBack, putO, dctAt, isKey, L1, hp]
    · cases q2 : lkv kv two with
      | none =>
        rw [q2] at L2
        refine Go.ifeT (e' := [some (dat (.int (n : Int))), some (dat T), some (dat LS), some (dat (.int (s : Int))), some (.b (.dct (kvD kv))), o5, o6, o7, o8, some (dat (qi l)), some (dat (.int (one : Int))), some (dat (.int (two : Int))), some (dat (qi (x + l))), none]) ?_ (Go.step (e' := [some (dat (.int (n : Int))), some (dat T), some (dat LS), some (dat (.int (s : Int))), some (.b (.dct (kvD (put kv two (x + l))))), o5, o6, o7, o8, some (dat (qi l)), some (dat (.int (one : Int))), some (dat (.int (two : Int))), some (dat (qi (x + l))), none]) ?_ (Go.nil (Go.nil (Go.nil ⟨rfl, _, _, rfl, done (.inl q2)⟩))))
        · generalize kvD kv = KV at *
          generalize qi l = ql at *
          simp -implicitDefEqProofs [tst, getB, B.toD, lift, O.toD, boolD, stillM, dctAt, isKey, L2]
        · generalize kvD kv = KV at *
          generalize kvD (put kv two (x + l)) = KV' at *
          generalize qi l = ql at *
          generalize qi (x + l) = qr at *
          simp -implicitDefEqProofs [getB, B.toD, lift, O.toD, stillM, putO, dctAt, isKey, hlen, P]
      | some y =>
        rw [q2] at L2
        have L2 : lookK (kvD kv) (.int (two : Int)) = some (qi y) := L2
        have hy := hless y
        by_cases hlt : x + l < y
        · rw [decide_eq_true hlt] at hy
          refine Go.ifeT (e' := [some (dat (.int (n : Int))), some (dat T), some (dat LS), some (dat (.int (s : Int))), some (.b (.dct (kvD kv))), o5, o6, o7, o8, some (dat (qi l)), some (dat (.int (one : Int))), some (dat (.int (two : Int))), some (dat (qi (x + l))), none]) ?_ (Go.step (e' := [some (dat (.int (n : Int))), some (dat T), some (dat LS), some (dat (.int (s : Int))), some (.b (.dct (kvD (put kv two (x + l))))), o5, o6, o7, o8, some (dat (qi l)), some (dat (.int (one : Int))), some (dat (.int (two : Int))), some (dat (qi (x + l))), none]) ?_ (Go.nil (Go.nil (Go.nil ⟨rfl, _, _, rfl, done (.inr ⟨y, q2, hlt⟩)⟩))))
          · generalize kvD kv = KV at *
            generalize qi l = ql at *
            generalize qi (x + l) = qr at *
            generalize qi y = qy at *
            simp -implicitDefEqProofs [tst, getB, B.toD, lift, O.toD, boolD, stillM, evas_of, putBack, dctAt, isKey, L2, hy]
          · generalize kvD kv = KV at *
            generalize kvD (put kv two (x + l)) = KV' at *
            generalize qi l = ql at *
            generalize qi (x + l) = qr at *
            simp -implicitDefEqProofs [getB, B.toD, lift, O.toD, stillM, putO, dctAt, isKey, hlen, P]
        · rw [decide_eq_false hlt] at hy
          refine Go.ifeF (e' := [some (dat (.int (n : Int))), some (dat T), some (dat LS), some (dat (.int (s : Int))), some (.b (.dct (kvD kv))), o5, o6, o7, o8, some (dat (qi l)), some (dat (.int (one : Int))), some (dat (.int (two : Int))), some (dat (qi (x + l))), none]) ?_ (Go.nil (Go.nil (Go.nil ⟨rfl, _, _, rfl, F⟩)))
          generalize kvD kv = KV at *
          generalize qi l = ql at *
          generalize qi (x + l) = qr at *
          generalize qi y = qy at *
          simp -implicitDefEqProofs [tst, getB, B.toD, lift, O.toD, boolD, stillM, evas_of, putBack, dctAt, isKey, L2, hy]
end K57P
set_option linter.all false
set_option maxRecDepth 100000
set_option maxHeartbeats 1000000
namespace K57P
open PySem MP
/-- ties with their lengths -/
def TieOk (n : Nat) (sd : List Nat) (z : Arc × Int) : Prop := z.1.1 < n ∧ z.1.2.1 < n ∧ 0 ≤ z.2 ∧ z.2 ≤ 1 ∧ (mem sd z.1.1 ≠ mem sd z.1.2.1 → 1 ≤ z.2)
def tieD (z : Arc × Int) : D := .tuple [arcD z.1, qi z.2]
theorem zip_t {as : List Arc} {ls : List Int} : (((as.map arcD).zip (ls.map qi)).map fun z => PyData.tuple [z.1, z.2]) = (as.zip ls).map tieD := by
  rw [List.zip_map, List.map_map]
  rfl
theorem ties_turn (k n s : Nat) (sd : List Nat) (T LS : D) (z : Arc × Int) (h : TieOk n sd z) (hn : n ≤ 900) (kv : List (Nat × Int)) (o5 o6 o7 o8 o9 o10 o11 o12 : Option O) (F : FarOk n sd s kv) :
    ∃ e', MP.bind (.cons (.cons (.nm 6) (.cons (.nm 7) (.t1 (.nm 8)))) (.t1 (.nm 9))) (tieD z) [some (dat (.int (n : Int))), some (dat T), some (dat LS), some (dat (.int (s : Int))), some (.b (.dct (kvD kv))), o5, o6, o7, o8, o9, o10, o11, o12, none] = some e' ∧
      Go (run tab (k + 2)) (.cons (.forr (.cons (.nm 10) (.t1 (.nm 11))) (.dat (.tup (.cons (.tup (.cons (.var 6) (.cons (.var 7) .nil))) (.cons (.tup (.cons (.var 7) (.cons (.var 6) .nil))) .nil)))) b_way) .nil) e' fun fl e2 => fl = .nx ∧ ∃ (kv' : List (Nat × Int)) (p6 p7 p8 p9 p10 p11 p12 : Option O), e2 = [some (dat (.int (n : Int))), some (dat T), some (dat LS), some (dat (.int (s : Int))), some (.b (.dct (kvD kv'))), o5, p6, p7, p8, p9, p10, p11, p12, none] ∧ FarOk n sd s kv' := by
  obtain ⟨⟨i, j, c⟩, l⟩ := z
  obtain ⟨h1, h2, h3, h4, h5⟩ := h
  have h1 : i < n := h1
  have h2 : j < n := h2
  refine ⟨[some (dat (.int (n : Int))), some (dat T), some (dat LS), some (dat (.int (s : Int))), some (.b (.dct (kvD kv))), o5, some (dat (.int (i : Int))), some (dat (.int (j : Int))), some (dat (.int c)), some (dat (qi l)), o10, o11, o12, none], by simp [MP.bind, tieD, arcD, putO], ?_⟩
  have hi : evi (run tab (k + 2)) (.dat (.tup (.cons (.tup (.cons (.var 6) (.cons (.var 7) .nil))) (.cons (.tup (.cons (.var 7) (.cons (.var 6) .nil))) .nil)))) [some (dat (.int (n : Int))), some (dat T), some (dat LS), some (dat (.int (s : Int))), some (.b (.dct (kvD kv))), o5, some (dat (.int (i : Int))), some (dat (.int (j : Int))), some (dat (.int c)), some (dat (qi l)), o10, o11, o12, none] =
      some ([.tuple [.int (i : Int), .int (j : Int)], .tuple [.int (j : Int), .int (i : Int)]], [some (dat (.int (n : Int))), some (dat T), some (dat LS), some (dat (.int (s : Int))), some (.b (.dct (kvD kv))), o5, some (dat (.int (i : Int))), some (dat (.int (j : Int))), some (dat (.int c)), some (dat (qi l)), o10, o11, o12, none]) := by
    have t : ∀ (a b : Nat) (x y : D), getB [some (dat (.int (n : Int))), some (dat T), some (dat LS), some (dat (.int (s : Int))), some (.b (.dct (kvD kv))), o5, some (dat (.int (i : Int))), some (dat (.int (j : Int))), some (dat (.int c)), some (dat (qi l)), o10, o11, o12, none] a = some x → getB [some (dat (.int (n : Int))), some (dat T), some (dat LS), some (dat (.int (s : Int))), some (.b (.dct (kvD kv))), o5, some (dat (.int (i : Int))), some (dat (.int (j : Int))), some (dat (.int c)), some (dat (qi l)), o10, o11, o12, none] b = some y → stillM (.bor a) [some (dat (.int (n : Int))), some (dat T), some (dat LS), some (dat (.int (s : Int))), some (.b (.dct (kvD kv))), o5, some (dat (.int (i : Int))), some (dat (.int (j : Int))), some (dat (.int c)), some (dat (qi l)), o10, o11, o12, none] = [some (dat (.int (n : Int))), some (dat T), some (dat LS), some (dat (.int (s : Int))), some (.b (.dct (kvD kv))), o5, some (dat (.int (i : Int))), some (dat (.int (j : Int))), some (dat (.int c)), some (dat (qi l)), o10, o11, o12, none] → stillM (.bor b) [some (dat (.int (n : Int))), some (dat T), some (dat LS), some (dat (.int (s : Int))), some (.b (.dct (kvD kv))), o5, some (dat (.int (i : Int))), some (dat (.int (j : Int))), some (dat (.int c)), some (dat (qi l)), o10, o11, o12, none] = [some (dat (.int (n : Int))), some (dat T), some (dat LS), some (dat (.int (s : Int))), some (.b (.dct (kvD kv))), o5, some (dat (.int (i : Int))), some (dat (.int (j : Int))), some (dat (.int c)), some (dat (qi l)), o10, o11, o12, none] →
        ev (run tab (k + 2)) (.tup (.cons (.var a) (.cons (.var b) .nil))) [some (dat (.int (n : Int))), some (dat T), some (dat LS), some (dat (.int (s : Int))), some (.b (.dct (kvD kv))), o5, some (dat (.int (i : Int))), some (dat (.int (j : Int))), some (dat (.int c)), some (dat (qi l)), o10, o11, o12, none] = some (dat (.tuple [x, y]), [some (dat (.int (n : Int))), some (dat T), some (dat LS), some (dat (.int (s : Int))), some (.b (.dct (kvD kv))), o5, some (dat (.int (i : Int))), some (dat (.int (j : Int))), some (dat (.int c)), some (dat (qi l)), o10, o11, o12, none]) := fun a b x y g1 g2 g3 g4 => ev_tup_of (ds := [x, y]) (by
        generalize [some (dat (.int (n : Int))), some (dat T), some (dat LS), some (dat (.int (s : Int))), some (.b (.dct (kvD kv))), o5, some (dat (.int (i : Int))), some (dat (.int (j : Int))), some (dat (.int c)), some (dat (qi l)), o10, o11, o12, none] = ee at *
        simp -implicitDefEqProofs [g1, g2, g3, g4, lift, O.toD, B.toD]) (by simp)
    have t1 := t 6 7 _ _ rfl rfl rfl rfl
    have t2 := t 7 6 _ _ rfl rfl rfl rfl
    generalize [some (dat (.int (n : Int))), some (dat T), some (dat LS), some (dat (.int (s : Int))), some (.b (.dct (kvD kv))), o5, some (dat (.int (i : Int))), some (dat (.int (j : Int))), some (dat (.int c)), some (dat (qi l)), o10, o11, o12, none] = ee at *
    rw [evi_dat, evb_tup, ev_tup_of (ds := [.tuple [.int (i : Int), .int (j : Int)], .tuple [.int (j : Int), .int (i : Int)]]) (e' := ee) (by
      rw [evs_cons, t1]
      simp only [lift, O.toD, B.toD, Option.bind_some, Option.map_some]
      rw [evs_cons, t2]
      simp -implicitDefEqProofs [lift, O.toD, B.toD]) (by simp)]
    rfl
  refine Go.forr (fun t e => ∃ (kv' : List (Nat × Int)) (p10 p11 p12 : Option O), e = [some (dat (.int (n : Int))), some (dat T), some (dat LS), some (dat (.int (s : Int))), some (.b (.dct (kvD kv'))), o5, some (dat (.int (i : Int))), some (dat (.int (j : Int))), some (dat (.int c)), some (dat (qi l)), p10, p11, p12, none] ∧ FarOk n sd s kv') hi ⟨kv, o10, o11, o12, rfl, F⟩ ?_ ?_
  · intro t x e hx he
    obtain ⟨kv', p10, p11, p12, rfl, F'⟩ := he
    have hx' : (x = .tuple [.int (i : Int), .int (j : Int)]) ∨ (x = .tuple [.int (j : Int), .int (i : Int)]) := by
      have := List.mem_of_getElem? hx
      simpa using this
    rcases hx' with rfl | rfl
    · refine ⟨_, rfl, (way k n s sd T LS kv' i j l o5 _ _ _ _ F' hn h2 ⟨h3, h4⟩ h5).mono fun fl e2 q => ?_⟩
      obtain ⟨rfl, kv2, o12', rfl, F2⟩ := q
      exact ⟨rfl, kv2, _, _, _, rfl, F2⟩
    · refine ⟨_, rfl, (way k n s sd T LS kv' j i l o5 _ _ _ _ F' hn h1 ⟨h3, h4⟩ (fun w => h5 (Ne.symm w))).mono fun fl e2 q => ?_⟩
      obtain ⟨rfl, kv2, o12', rfl, F2⟩ := q
      exact ⟨rfl, kv2, _, _, _, rfl, F2⟩
  · intro e2 he
    obtain ⟨kv', p10, p11, p12, rfl, F'⟩ := he
    exact Go.nil ⟨rfl, kv', _, _, _, _, _, _, _, rfl, F'⟩
/-- what far_from gives: for each place nothing, or how far it is -/
def farL (n : Nat) (kv : List (Nat × Int)) : List D := (List.range n).map fun i => ((lkv kv i).map qi).getD .none
theorem far_from (k n s : Nat) (sd : List Nat) (as : List Arc) (ls : List Int) (hz : ∀ z ∈ as.zip ls, TieOk n sd z) (hn : n ≤ 900) (hs : s < n) :
    ∃ kv, run tab (k + 3) 24 [dat (.int (n : Int)), dat (.tuple (as.map arcD)), dat (.tuple (ls.map qi)), dat (.int (s : Int))] = some ([none, none, none, none], .b (.lst (farL n kv))) ∧ FarOk n sd s kv := by
  rw [r_far_from]
  have ht : ∀ {e : Env'}, ev (run tab (k + 2)) (.tup (.cons (.cst (.int 0)) (.cons (.cst (.int 1)) .nil))) e = some (dat (qi 0), e) := fun {e} => ev_tup_of (ds := [.int 0, .int 1]) (by simp -implicitDefEqProofs [lift, O.toD, B.toD]) (by simp)
  have F0 : FarOk n sd s [(s, 0)] := ⟨by simp, fun p hp => by rw [List.mem_singleton] at hp; subst hp; exact hs, fun p hp => by rw [List.mem_singleton] at hp; subst hp; simp, fun p hp w => by rw [List.mem_singleton] at hp; subst hp; exact absurd rfl w⟩
  have hzip : ∀ (kv : List (Nat × Int)) (o5 o6 o7 o8 o9 o10 o11 o12 : Option O), evi (run tab (k + 2)) (.zip (.bor 1) (.bor 2)) [some (dat (.int (n : Int))), some (dat (.tuple (as.map arcD))), some (dat (.tuple (ls.map qi))), some (dat (.int (s : Int))), some (.b (.dct (kvD kv))), o5, o6, o7, o8, o9, o10, o11, o12, none] = some ((as.zip ls).map tieD, [some (dat (.int (n : Int))), some (dat (.tuple (as.map arcD))), some (dat (.tuple (ls.map qi))), some (dat (.int (s : Int))), some (.b (.dct (kvD kv))), o5, o6, o7, o8, o9, o10, o11, o12, none]) := fun kv o5 o6 o7 o8 o9 o10 o11 o12 => by
    rw [evi_zip]
    have z := zip_t (as := as) (ls := ls)
    generalize (as.zip ls).map tieD = ZZ at *
    generalize as.map arcD = AA at *
    generalize ls.map qi = LL at *
    generalize kvD kv = KV at *
    simp -implicitDefEqProofs [getB, B.toD, now, stillM, z]
  generalize PyData.tuple (as.map arcD) = T at *
  generalize PyData.tuple (ls.map qi) = LS at *
  obtain ⟨bs, o, h, q⟩ := call_ex (f := f_far_from) (C := run tab (k + 2)) (xs := [dat (.int (n : Int)), dat T, dat LS, dat (.int (s : Int))]) (Q := fun bs o => bs = [none, none, none, none] ∧ ∃ kv, o = .b (.lst (farL n kv)) ∧ FarOk n sd s kv) rfl (by
    refine Go.step (e' := [some (dat (.int (n : Int))), some (dat T), some (dat LS), some (dat (.int (s : Int))), some (.b (.dct (kvD [(s, 0)]))), none, none, none, none, none, none, none, none, none]) ?_ (Go.forr (xs := rngD 0 n) (e1 := [some (dat (.int (n : Int))), some (dat T), some (dat LS), some (dat (.int (s : Int))), some (.b (.dct (kvD [(s, 0)]))), none, none, none, none, none, none, none, none, none]) (fun t e => ∃ (kv : List (Nat × Int)) (p5 p6 p7 p8 p9 p10 p11 p12 : Option O), e = [some (dat (.int (n : Int))), some (dat T), some (dat LS), some (dat (.int (s : Int))), some (.b (.dct (kvD kv))), p5, p6, p7, p8, p9, p10, p11, p12, none] ∧ FarOk n sd s kv) ?_ ⟨[(s, 0)], none, none, none, none, none, none, none, none, rfl, F0⟩ ?_ ?_)
    · simp -implicitDefEqProofs [-ev_tup, f_far_from, getB, B.toD, lift, O.toD, stillM, putO, ht, isKey, kvD]
    · refine evi_rng_of (by omega) ?_
      simp -implicitDefEqProofs [getB, B.toD, lift, O.toD, stillM]
    · intro t x e hx he
      obtain ⟨kv, p5, p6, p7, p8, p9, p10, p11, p12, rfl, F⟩ := he
      obtain ⟨hi, rfl⟩ := rng_at hx
      refine ⟨[some (dat (.int (n : Int))), some (dat T), some (dat LS), some (dat (.int (s : Int))), some (.b (.dct (kvD kv))), some (dat (.int (t : Int))), p6, p7, p8, p9, p10, p11, p12, none], by simp -implicitDefEqProofs [MP.bind, putO], Go.forr (fun u e => ∃ (kv' : List (Nat × Int)) (p6 p7 p8 p9 p10 p11 p12 : Option O), e = [some (dat (.int (n : Int))), some (dat T), some (dat LS), some (dat (.int (s : Int))), some (.b (.dct (kvD kv'))), some (dat (.int (t : Int))), p6, p7, p8, p9, p10, p11, p12, none] ∧ FarOk n sd s kv') (hzip _ _ _ _ _ _ _ _ _) ⟨kv, p6, p7, p8, p9, p10, p11, p12, rfl, F⟩ ?_ ?_⟩
      · intro u y e hy he
        obtain ⟨kv', p6, p7, p8, p9, p10, p11, p12, rfl, F'⟩ := he
        rw [List.getElem?_map] at hy
        cases hq : (as.zip ls)[u]? with
        | none => rw [hq] at hy; cases hy
        | some z =>
          rw [hq] at hy
          cases hy
          obtain ⟨e', b1, b2⟩ := ties_turn k n s sd T LS z (hz z (List.mem_of_getElem? hq)) hn kv' (some (dat (.int (t : Int)))) p6 p7 p8 p9 p10 p11 p12 F'
          exact ⟨e', b1, b2⟩
      · intro e2 he
        obtain ⟨kv', p6, p7, p8, p9, p10, p11, p12, rfl, F'⟩ := he
        exact Go.nil ⟨rfl, kv', _, _, _, _, _, _, _, _, rfl, F'⟩
    · intro e2 he
      obtain ⟨kv, p5, p6, p7, p8, p9, p10, p11, p12, rfl, F⟩ := he
      have hl := lc_lst (C := run tab (k + 2)) (own := [13]) (tg := .nm 13) (it := .rng (.var 0)) (cs := .nil) (elt := .getDN 4 (.var 13)) (e := [some (dat (.int (n : Int))), some (dat T), some (dat LS), some (dat (.int (s : Int))), some (.b (.dct (kvD kv))), p5, p6, p7, p8, p9, p10, p11, p12, none]) (e1 := [some (dat (.int (n : Int))), some (dat T), some (dat LS), some (dat (.int (s : Int))), some (.b (.dct (kvD kv))), p5, p6, p7, p8, p9, p10, p11, p12, none]) (w := [some (dat (.int (n : Int))), some (dat T), some (dat LS), some (dat (.int (s : Int))), some (.b (.dct (kvD kv))), p5, p6, p7, p8, p9, p10, p11, p12, none]) (List.range n) (fun i => .int ((0 : Int) + (i : Int))) (fun _ => true) (fun i => ((lkv kv i).map qi).getD .none) (evi_rng_of (by omega) (by simp -implicitDefEqProofs [getB, B.toD, lift, O.toD, stillM])) rfl (fun i hi => by
        have L := lookK_kv (kv := kv) (v := i)
        refine ⟨[some (dat (.int (n : Int))), some (dat T), some (dat LS), some (dat (.int (s : Int))), some (.b (.dct (kvD kv))), p5, p6, p7, p8, p9, p10, p11, p12, some (dat (.int (i : Int)))], ?_, rfl⟩
        rw [Int.zero_add]
        generalize (lkv kv i).map qi = r at *
        generalize kvD kv = KV at *
        simp -implicitDefEqProofs [trnL, MP.bind, putO, getB, B.toD, lift, O.toD, stillM, dctAt, isKey, L]) (by rw [List.length_range]; omega)
      rw [List.filter_eq_self.mpr fun _ _ => rfl] at hl
      exact Go.ret (o := .b (.lst (farL n kv))) hl ⟨_, rfl, rfl, kv, rfl, F⟩)
  obtain ⟨rfl, kv, rfl, F⟩ := q
  exact ⟨kv, h, F⟩
end K57P
set_option linter.all false
set_option maxRecDepth 100000
set_option maxHeartbeats 1000000
namespace MP
open PySem
theorem forR_ind {turn : D → Env' → Out} {xs : List D} (P : Nat → Env' → Prop) (R : O → Env' → Prop) (h : ∀ i x e, xs[i]? = some x → P i e → (∃ e', turn x e = some (.nx, e') ∧ P (i + 1) e') ∨ ∃ o e', turn x e = some (.rt o, e') ∧ R o e') {e : Env'} (h0 : P 0 e) :
    (∃ e', forLoop turn xs e = some (.nx, e') ∧ P xs.length e') ∨ ∃ o e', forLoop turn xs e = some (.rt o, e') ∧ R o e' := by
  have key : ∀ (ys : List D) (k : Nat) (e : Env'), xs.drop k = ys → k + ys.length = xs.length → P k e → (∃ e', forLoop turn ys e = some (.nx, e') ∧ P xs.length e') ∨ ∃ o e', forLoop turn ys e = some (.rt o, e') ∧ R o e' := by
    intro ys
    induction ys with
    | nil =>
      intro k e _ hk p
      exact .inl ⟨e, rfl, by rw [← hk]; exact p⟩
    | cons y ys ih =>
      intro k e hd hk p
      have hk' : k < xs.length := by rw [List.length_cons] at hk; omega
      have hc := List.drop_eq_getElem_cons hk'
      rw [hd] at hc
      injection hc with c1 c2
      rcases h k y e (by rw [List.getElem?_eq_getElem hk', c1]) p with ⟨e1, h1, p1⟩ | ⟨o, e1, h1, r1⟩
      · rcases ih (k + 1) e1 c2.symm (by rw [List.length_cons] at hk; omega) p1 with ⟨e2, h2, p2⟩ | ⟨o, e2, h2, r2⟩
        · exact .inl ⟨e2, by unfold forLoop; rw [h1]; exact h2, p2⟩
        · exact .inr ⟨o, e2, by unfold forLoop; rw [h1]; exact h2, r2⟩
      · exact .inr ⟨o, e1, by unfold forLoop; rw [h1]; rfl, r1⟩
  exact key xs 0 e rfl (by simp) h0
/-- a for that may return -/
theorem Go.forrR {C : CallF} {r b : Ss} {e : Env'} {Q : Fl → Env' → Prop} {tg : Tg} {it : Itm} {xs : List D} {e1 : Env'} (P : Nat → Env' → Prop) (hi : evi C it e = some (xs, e1)) (h0 : P 0 e1)
    (h : ∀ i x e, xs[i]? = some x → P i e → ∃ e', (MP.bind tg x e) = some e' ∧ Go C b e' fun fl e2 => (fl = .nx ∧ P (i + 1) e2) ∨ ∃ o, fl = .rt o ∧ Q (.rt o) e2) (k : ∀ e2, P xs.length e2 → Go C r e2 Q) : Go C (.cons (.forr tg it b) r) e Q := by
  have := forR_ind (turn := fun x e => (MP.bind tg x e).bind fun e' => evSs C b e') P (fun o e => Q (.rt o) e) (fun i x e hx p => by
    obtain ⟨e', hb, fl, e2, h2, q⟩ := h i x e hx p
    have hh : ((MP.bind tg x e).bind fun e' => evSs C b e') = some (fl, e2) := by rw [hb]; exact h2
    rcases q with ⟨rfl, p2⟩ | ⟨o, rfl, q⟩
    · exact .inl ⟨e2, hh, p2⟩
    · exact .inr ⟨o, e2, hh, q⟩) h0
  rcases this with ⟨e2, h1, h2⟩ | ⟨o, e2, h1, h2⟩
  · refine Go.step (e' := e2) ?_ (k e2 h2)
    rw [evS_for, hi]
    exact h1
  · refine ⟨.rt o, e2, ?_, h2⟩
    rw [evSs_cons, evS_for, hi]
    show ((forLoop _ xs e1).bind _) = _
    rw [h1]
    rfl
theorem genTup_mapA {α : Type} {turn : D → Option (Option D)} (g f : α → D) : ∀ {xs : List α} {acc : List D}, (∀ x ∈ xs, turn (g x) = some (some (f x))) → acc.length + xs.length ≤ sizeLine → genTup turn (xs.map g) acc = some (acc ++ xs.map f)
  | [], acc, h, hl => by
    show some acc = _
    rw [List.map_nil, List.append_nil]
  | x :: xs, acc, h, hl => by
    rw [List.map_cons]
    unfold genTup
    rw [h x List.mem_cons_self]
    rw [List.length_cons] at hl
    simp only [Option.bind_some]
    rw [if_pos (by omega), genTup_mapA g f (fun y hy => h y (List.mem_cons_of_mem _ hy)) (by rw [List.length_append]; simp; omega)]
    simp
end MP
namespace K57P
open PySem MP
def crossS (as : List Arc) (ls : List Int) : Int := ((as.zip ls).map fun z => z.1.2.2 * z.2).sum
def sepB (sd : List Nat) (a : Arc) : Bool := mem sd a.1 != mem sd a.2.1
def wantS (sd : List Nat) (os : List Arc) : Int := ((os.filter (sepB sd)).map fun o => o.2.2).sum
theorem wantS_snoc {sd : List Nat} {os : List Arc} {i : Nat} {o : Arc} (h : os[i]? = some o) : wantS sd (os.take (i + 1)) = wantS sd (os.take i) + if sepB sd o = true then o.2.2 else 0 := by
  unfold wantS
  rw [List.take_add_one, h, List.filter_append, List.map_append, List.sum_append]
  congr 1
  cases hs : sepB sd o <;> simp [hs]
theorem orders_judge (k n : Nat) (sd : List Nat) (as os : List Arc) (ls : List Int) (hlen : ls.length = as.length) (hal : as.length ≤ 1000) (hz : ∀ z ∈ as.zip ls, TieOk n sd z) (hls : ∀ l ∈ ls, 0 ≤ l ∧ l ≤ 1) (hn : n ≤ 900) (ho : ∀ o ∈ os, o.1 < n ∧ o.2.1 < n ∧ 1 ≤ o.2.2) (hw : crossS as ls < wantS sd os) :
    run tab (k + 5) 25 [.ins "Orders" [], dat (.tuple [.int (n : Int), .tuple (as.map arcD), .tuple (os.map arcD)]), dat (.tuple [.str "lengths", .tuple (ls.map qi)])] = some ([some (.ins "Orders" []), none, none], dat (.bool true)) := by
  rw [r_Orders_judge]
  have w1 := worded_no (k + 3) "lengths" "shares" [.tuple (ls.map qi)] 2 (by decide)
  have w2 := worded_yes (k + 3) "lengths" [.tuple (ls.map qi)] 2 rfl
  have qr := is_quotient_row k ls (as.length : Int) (by rw [hlen])
  have lenT : biD .len (.tuple (as.map arcD)) = some (dat (.int (as.length : Int))) := by simp [biD]
  have g1 : idxD (.tuple [.str "lengths", .tuple (ls.map qi)]) (.int 1) = some (.tuple (ls.map qi)) := atD_1
  have hany : genAll false (trnG (run tab (k + 4)) (.nm 0) .nil (.cmp .lt (.idx (.bor 0) (.cst (.int 0))) (.cst (.int 0))) [none]) (ls.map qi) = some false := by
    rw [genAny_any (f := fun _ => false)]
    · simp
    · intro x hx
      obtain ⟨l, hl, rfl⟩ := List.mem_map.mp hx
      have h0 := qi0 (x := l)
      have h1 := (hls l hl).1
      have h2 : cmpD .lt (.int l) (.int 0) = some false := by simp [cmpD, h1]
      generalize qi l = ql at *
      simp -implicitDefEqProofs [trnG, MP.bind, putO, getB, B.toD, lift, O.toD, now, h0, h2]
  have hgt : genTup (trnG (run tab (k + 4)) (.cons (.nm 0) (.t1 (.nm 1))) .nil (.call 12 (.cons (.tup (.cons (.idx (.bor 0) (.cst (.int 2))) (.cons (.cst (.int 1)) .nil))) (.cons (.var 1) .nil))) [none, none]) ((as.zip ls).map tieD) [] = some ((as.zip ls).map fun z => qi (z.1.2.2 * z.2)) := by
    rw [genTup_mapA tieD (fun z => qi (z.1.2.2 * z.2))]
    · rfl
    · intro z hz'
      have hb := hls z.2 (List.of_mem_zip hz').2
      have ht := times (k + 2) z.1.2.2 z.2 (by omega)
      have hbd : MP.bind (.cons (.nm 0) (.t1 (.nm 1))) (tieD z) [none, none] = some [some (dat (arcD z.1)), some (dat (qi z.2))] := by simp [MP.bind, tieD, putO]
      have g2 : idxD (arcD z.1) (.int 2) = some (.int z.1.2.2) := atD_2
      generalize arcD z.1 = A at *
      have hq : ev (run tab (k + 4)) (.tup (.cons (.idx (.bor 0) (.cst (.int 2))) (.cons (.cst (.int 1)) .nil))) [some (dat A), some (dat (qi z.2))] = some (dat (qi z.1.2.2), [some (dat A), some (dat (qi z.2))]) := ev_tup_of (ds := [.int z.1.2.2, .int 1]) (by simp -implicitDefEqProofs [getB, B.toD, lift, O.toD, now, g2]) (by simp)
      generalize tieD z = tz at *
      generalize qi (z.1.2.2 * z.2) = q3 at *
      generalize qi z.1.2.2 = q1 at *
      generalize qi z.2 = q2 at *
      simp -implicitDefEqProofs [-ev_tup, trnG, hbd, getB, B.toD, lift, O.toD, stillM, evas_of, putBack, hq, ht]
    · rw [sl, List.length_zip]
      show 0 + _ ≤ _
      omega
  have htot := total (k + 1) (.tuple ((as.zip ls).map fun z => qi (z.1.2.2 * z.2))) ((as.zip ls).map fun z => z.1.2.2 * z.2) (by rw [List.map_map]; rfl)
  have hzip : ∀ (e : Env'), evb (run tab (k + 4)) (.bor 4) e = some (.tuple (as.map arcD), e) → evb (run tab (k + 4)) (.idx (.bor 2) (.cst (.int 1))) e = some (.tuple (ls.map qi), e) → now (.bor 4) (.tuple (as.map arcD)) e = some (.tuple (as.map arcD)) → stillM (.bor 4) e = e → stillM (.idx (.bor 2) (.cst (.int 1))) e = e →
      evi (run tab (k + 4)) (.zip (.bor 4) (.idx (.bor 2) (.cst (.int 1)))) e = some ((as.zip ls).map tieD, e) := fun e a1 a2 a3 a4 a5 => by
    rw [evi_zip, a1]
    simp only [Option.bind_some]
    rw [a2]
    simp only [Option.bind_some]
    rw [a3]
    simp only [Option.bind_some]
    rw [a4, a5, zip_t]
  have far : ∀ s, s < n → ∃ kv, run tab (k + 4) 24 [dat (.int (n : Int)), dat (.tuple (as.map arcD)), dat (.tuple (ls.map qi)), dat (.int (s : Int))] = some ([none, none, none, none], .b (.lst (farL n kv))) ∧ FarOk n sd s kv := fun s hs => far_from (k + 1) n s sd as ls hz hn hs
  have hT : seqD (.tuple (os.map arcD)) = some (os.map arcD) := rfl
  have tdef : crossS as ls = ((as.zip ls).map fun z => z.1.2.2 * z.2).sum := rfl
  rw [← tdef] at htot
  generalize ((as.zip ls).map fun z => qi (z.1.2.2 * z.2)) = QL at *
  have hsx : seqD (.tuple (ls.map qi)) = some (ls.map qi) := rfl
  generalize (as.zip ls).map tieD = ZZ at *
  generalize PyData.tuple (as.map arcD) = T at *
  generalize PyData.tuple (ls.map qi) = X at *
  generalize hOS : PyData.tuple (os.map arcD) = OS at *
  generalize hDD : PyData.tuple [.int (n : Int), T, OS] = DD
  generalize hV : PyData.tuple [.str "lengths", X] = V at *
  have hbind : MP.bind (.cons (.nm 3) (.cons (.nm 4) (.t1 (.nm 5)))) DD [some (.ins "Orders" []), some (dat DD), some (dat V), none, none, none, none, none, none, none, none] = some [some (.ins "Orders" []), some (dat DD), some (dat V), some (dat (.int (n : Int))), some (dat T), some (dat OS), none, none, none, none, none] := by
    rw [← hDD]
    simp [MP.bind, putO]
  clear hDD hOS
  refine call_of rfl (Go.step (e' := [some (.ins "Orders" []), some (dat DD), some (dat V), some (dat (.int (n : Int))), some (dat T), some (dat OS), none, none, none, none, none]) ?_ (Go.ifeF (e' := [some (.ins "Orders" []), some (dat DD), some (dat V), some (dat (.int (n : Int))), some (dat T), some (dat OS), none, none, none, none, none]) ?_ (Go.nil (Go.ifeF (e' := [some (.ins "Orders" []), some (dat DD), some (dat V), some (dat (.int (n : Int))), some (dat T), some (dat OS), none, none, none, none, none]) ?_ (Go.nil (Go.ifeF (e' := [some (.ins "Orders" []), some (dat DD), some (dat V), some (dat (.int (n : Int))), some (dat T), some (dat OS), none, none, none, none, none]) ?_ (Go.nil (Go.step (e' := [some (.ins "Orders" []), some (dat DD), some (dat V), some (dat (.int (n : Int))), some (dat T), some (dat OS), some (dat (qi (crossS as ls))), none, none, none, none]) ?_ (Go.forrR (xs := os.map arcD) (e1 := [some (.ins "Orders" []), some (dat DD), some (dat V), some (dat (.int (n : Int))), some (dat T), some (dat OS), some (dat (qi (crossS as ls))), none, none, none, none])
    (fun t e => ∃ (y : Int) (o7 o8 o9 o10 : Option O), e = [some (.ins "Orders" []), some (dat DD), some (dat V), some (dat (.int (n : Int))), some (dat T), some (dat OS), some (dat (qi y)), o7, o8, o9, o10] ∧ y ≤ crossS as ls - wantS sd (os.take t)) ?_ ⟨_, none, none, none, none, rfl, by simp [wantS]⟩ ?_ ?_)))))))))
  · simp -implicitDefEqProofs [f_Orders_judge, getB, B.toD, lift, O.toD, stillM, hbind]
  · simp -implicitDefEqProofs [tst, getB, B.toD, lift, O.toD, boolD, stillM, evas_of, putBack, w1]
  · simp -implicitDefEqProofs [tst, getB, B.toD, lift, O.toD, boolD, now, stillM, evas_of, putBack, w2, g1, lenT, qr]
  · simp -implicitDefEqProofs [tst, getB, B.toD, lift, O.toD, boolD, now, stillM, g1, hsx, capt, hany]
  · have hz0 := hzip [some (.ins "Orders" []), some (dat DD), some (dat V), some (dat (.int (n : Int))), some (dat T), some (dat OS), none, none, none, none, none] (by rw [evb_bor]; rfl) (by simp -implicitDefEqProofs [getB, B.toD, lift, O.toD, now, g1]) rfl rfl rfl
    generalize qi (crossS as ls) = qc at *
    simp -implicitDefEqProofs [-evi_zip, getB, B.toD, lift, O.toD, stillM, evas_of, putBack, putO, hz0, capt, hgt, htot]
  · simp -implicitDefEqProofs [getB, B.toD, stillM, hT]
  · intro t x e hx he
    obtain ⟨y, o7, o8, o9, o10, rfl, hy⟩ := he
    rw [List.getElem?_map] at hx
    cases hq : os[t]? with
    | none => rw [hq] at hx; cases hx
    | some o =>
      rw [hq] at hx
      cases hx
      obtain ⟨u1, u2, u3⟩ := ho o (List.mem_of_getElem? hq)
      have hwt := wantS_snoc (sd := sd) hq
      obtain ⟨⟨u, v, d⟩, rfl⟩ : ∃ q : Arc, q = o := ⟨o, rfl⟩
      have u1 : u < n := u1
      have u2 : v < n := u2
      have u3 : 1 ≤ d := u3
      obtain ⟨kv, hf, F⟩ := far u u1
      have gv : idxD (.list (farL n kv)) (.int (v : Int)) = some (((lkv kv v).map qi).getD .none) := atD_nat (by
        unfold farL
        rw [List.getElem?_map, List.getElem?_range u2]
        rfl)
      refine ⟨[some (.ins "Orders" []), some (dat DD), some (dat V), some (dat (.int (n : Int))), some (dat T), some (dat OS), some (dat (qi y)), some (dat (.int (u : Int))), some (dat (.int (v : Int))), some (dat (.int d)), o10], by simp [MP.bind, arcD, putO], Go.step (e' := [some (.ins "Orders" []), some (dat DD), some (dat V), some (dat (.int (n : Int))), some (dat T), some (dat OS), some (dat (qi y)), some (dat (.int (u : Int))), some (dat (.int (v : Int))), some (dat (.int d)), some (dat (((lkv kv v).map qi).getD .none))]) ?_ ?_⟩
      · generalize ((lkv kv v).map qi).getD .none = r at *
        generalize farL n kv = FL at *
        generalize qi y = qy at *
        simp -implicitDefEqProofs [getB, B.toD, lift, O.toD, now, stillM, evas_of, putBack, putO, g1, hf, gv]
      · cases hl : lkv kv v with
        | none =>
          refine Go.ifeT (e' := [some (.ins "Orders" []), some (dat DD), some (dat V), some (dat (.int (n : Int))), some (dat T), some (dat OS), some (dat (qi y)), some (dat (.int (u : Int))), some (dat (.int (v : Int))), some (dat (.int d)), some (dat .none)]) ?_ (Go.ret (o := dat (.bool true)) ev_cst (.inr ⟨_, rfl, rfl, rfl⟩))
          generalize qi y = qy at *
          simp -implicitDefEqProofs [tst, getB, B.toD, lift, O.toD, boolD]
        | some x =>
          have hm := lkv_some hl
          have b1 := F.ge _ hm
          have b1 : 0 ≤ x ∧ x + 1 ≤ kv.length := b1
          have b2 := F.len
          have b3 := F.sep _ hm
          have b3 : mem sd v ≠ mem sd u → 1 ≤ x := b3
          have ht := times (k + 2) d x (by omega)
          have hmn := minus (k + 2) y (d * x)
          have hd : (if sepB sd (u, v, d) = true then d else 0) ≤ d * x := by
            by_cases hs : sepB sd (u, v, d) = true
            · rw [if_pos hs]
              have : 1 ≤ x := b3 fun w => by
                unfold sepB at hs
                simp [w] at hs
              have := Int.mul_le_mul_of_nonneg_left this (by omega : (0 : Int) ≤ d)
              omega
            · rw [if_neg hs]
              exact Int.mul_nonneg (by omega) b1.1
          refine Go.ifeF (e' := [some (.ins "Orders" []), some (dat DD), some (dat V), some (dat (.int (n : Int))), some (dat T), some (dat OS), some (dat (qi y)), some (dat (.int (u : Int))), some (dat (.int (v : Int))), some (dat (.int d)), some (dat (qi x))]) ?_ (Go.nil (Go.step (e' := [some (.ins "Orders" []), some (dat DD), some (dat V), some (dat (.int (n : Int))), some (dat T), some (dat OS), some (dat (qi (y - d * x))), some (dat (.int (u : Int))), some (dat (.int (v : Int))), some (dat (.int d)), some (dat (qi x))]) ?_ (Go.nil (.inl ⟨rfl, _, _, _, _, _, rfl, ?_⟩))))
          · have hnn : ∀ (m : M) (e e' : Env'), evb (run tab (k + 4)) m e = some (qi x, e') → ev (run tab (k + 4)) (.isN false m) e = some (dat (.bool false), e') := fun m e e' h => by
              rw [ev_isN, h]
              rfl
            have := hnn (.bor 10) [some (.ins "Orders" []), some (dat DD), some (dat V), some (dat (.int (n : Int))), some (dat T), some (dat OS), some (dat (qi y)), some (dat (.int (u : Int))), some (dat (.int (v : Int))), some (dat (.int d)), some (dat (qi x))] _ (by rw [evb_bor]; rfl)
            show tst _ (.isN false (.bor 10)) [some (.ins "Orders" []), some (dat DD), some (dat V), some (dat (.int (n : Int))), some (dat T), some (dat OS), some (dat (qi y)), some (dat (.int (u : Int))), some (dat (.int (v : Int))), some (dat (.int d)), some (dat (qi x))] = _
            unfold tst
            rw [this]
            rfl
          · have hq : ev (run tab (k + 4)) (.tup (.cons (.var 9) (.cons (.cst (.int 1)) .nil))) [some (.ins "Orders" []), some (dat DD), some (dat V), some (dat (.int (n : Int))), some (dat T), some (dat OS), some (dat (qi y)), some (dat (.int (u : Int))), some (dat (.int (v : Int))), some (dat (.int d)), some (dat (qi x))] = some (dat (qi d), [some (.ins "Orders" []), some (dat DD), some (dat V), some (dat (.int (n : Int))), some (dat T), some (dat OS), some (dat (qi y)), some (dat (.int (u : Int))), some (dat (.int (v : Int))), some (dat (.int d)), some (dat (qi x))]) := ev_tup_of (ds := [.int d, .int 1]) (by
              generalize qi y = qy at *
              generalize qi x = qx at *
              simp -implicitDefEqProofs [getB, B.toD, lift, O.toD, stillM]) (by simp)
            generalize qi (y - d * x) = q4 at *
            generalize qi (d * x) = q3 at *
            generalize qi y = qy at *
            generalize qi x = qx at *
            generalize qi d = qd at *
            simp -implicitDefEqProofs [-ev_tup, getB, B.toD, lift, O.toD, stillM, evas_of, putBack, putO, hq, ht, hmn]
          · rw [hwt]
            have : (if sepB sd (u, v, d) = true then (u, v, d).2.2 else 0) = if sepB sd (u, v, d) = true then d else 0 := rfl
            omega
  · intro e2 he
    obtain ⟨y, o7, o8, o9, o10, rfl, hy⟩ := he
    rw [List.length_map, List.take_length] at hy
    have h0 := qi0 (x := y)
    have h2 : cmpD .lt (.int y) (.int 0) = some true := by simp [cmpD]; omega
    generalize qi y = qy at *
    refine Go.ret (o := dat (.bool true)) (e' := [some (.ins "Orders" []), some (dat DD), some (dat V), some (dat (.int (n : Int))), some (dat T), some (dat OS), some (dat qy), o7, o8, o9, o10]) ?_ ⟨rfl, rfl⟩
    simp -implicitDefEqProofs [getB, B.toD, lift, O.toD, now, h0, h2]
end K57P
set_option linter.all false
set_option maxRecDepth 100000
set_option maxHeartbeats 1000000
namespace K57P
open PySem MP
def sideD (ks : List Nat) : D := .tuple (nl ks)
theorem getD_app {ks : List Nat} {t i : Nat} : (ks ++ [t]).getD i 0 = if i < ks.length then ks.getD i 0 else if i = ks.length then t else 0 := by
  rw [List.getD_eq_getElem?_getD, List.getD_eq_getElem?_getD]
  by_cases h : i < ks.length
  · rw [List.getElem?_append_left h, if_pos h]
  · rw [List.getElem?_append_right (by omega), if_neg h]
    by_cases h2 : i = ks.length
    · simp [h2]
    · have : i - ks.length ≠ 0 := by omega
      rw [if_neg h2]
      cases hq : i - ks.length with
      | zero => exact absurd hq this
      | succ m => simp
theorem Asc.up {t : Nat} {ks : List Nat} (h : Asc t ks) : Asc (t + 1) ks := ⟨fun k hk => Nat.lt_succ_of_lt (h.1 k hk), h.2⟩
theorem Asc.snoc {t : Nat} {ks : List Nat} (h : Asc t ks) : Asc (t + 1) (ks ++ [t]) := by
  refine ⟨fun k hk => ?_, fun i hi => ?_⟩
  · rcases List.mem_append.mp hk with hk | hk
    · exact Nat.lt_succ_of_lt (h.1 k hk)
    · have : k = t := by simpa using hk
      omega
  · rw [List.length_append, List.length_singleton] at hi
    rw [getD_app, getD_app, if_pos (by omega)]
    by_cases z : i + 1 < ks.length
    · rw [if_pos z]
      exact h.2 i z
    · rw [if_neg z, if_pos (by omega)]
      have hlt : i < ks.length := by omega
      have : ks.getD i 0 ∈ ks := by
        rw [List.getD_eq_getElem?_getD, List.getElem?_eq_getElem hlt]
        exact List.getElem_mem hlt
      exact h.1 _ this
theorem law_subsets (k n : Nat) (hn : n ≤ 7) : ∃ subs : List (List Nat), run tab (k + 1) 31 [dat (.int (n : Int))] = some ([none], .b (.lst (subs.map sideD))) ∧ ∀ ks ∈ subs, Asc n ks ∧ ks.length ≤ n := by
  rw [r__law_subsets]
  have hsl := sl
  obtain ⟨bs, o, h, q⟩ := call_ex (f := f__law_subsets) (C := run tab k) (xs := [dat (.int (n : Int))]) (Q := fun bs o => bs = [none] ∧ ∃ subs : List (List Nat), o = .b (.lst (subs.map sideD)) ∧ ∀ ks ∈ subs, Asc n ks ∧ ks.length ≤ n) rfl (by
    refine Go.step (e' := [some (dat (.int (n : Int))), some (.b (.lst [.tuple []])), none, none]) ?_ (Go.forr (xs := rngD 0 n) (e1 := [some (dat (.int (n : Int))), some (.b (.lst [.tuple []])), none, none]) (fun t e => ∃ (subs : List (List Nat)) (o2 : Option O), e = [some (dat (.int (n : Int))), some (.b (.lst (subs.map sideD))), o2, none] ∧ subs.length = 2 ^ t ∧ ∀ ks ∈ subs, Asc t ks ∧ ks.length ≤ t) ?_ ⟨[[]], none, rfl, rfl, fun ks hk => by
      rw [List.mem_singleton] at hk
      subst hk
      exact ⟨⟨fun k hk => absurd hk (by simp), fun i hi => absurd hi (by simp)⟩, Nat.zero_le _⟩⟩ ?_ ?_)
    · have h1 : ∀ e : Env', ev (run tab k) (.tup .nil) e = some (dat (.tuple []), e) := fun e => ev_tup_of (ds := []) evs_nil (by simp)
      rw [evS_set, ev_lst_of (ds := [.tuple []]) (e' := [some (dat (.int (n : Int))), none, none, none]) (by
        show evs _ (.cons (.tup .nil) .nil) _ = _
        rw [evs_cons, h1]
        simp -implicitDefEqProofs [lift, O.toD, B.toD, f__law_subsets]) (by simp)]
      rfl
    · refine evi_rng_of (by omega) ?_
      simp -implicitDefEqProofs [getB, B.toD, lift, O.toD, stillM]
    · intro t x e hx he
      obtain ⟨subs, o2, rfl, hl, hg⟩ := he
      obtain ⟨ht, rfl⟩ := rng_at hx
      have h128 : subs.length ≤ 64 := by
        rw [hl]
        have : t ≤ 6 := by omega
        calc 2 ^ t ≤ 2 ^ 6 := Nat.pow_le_pow_right (by omega) this
          _ = 64 := rfl
      have hlc := lc_lst (C := run tab k) (own := [3]) (tg := .nm 3) (it := .dat (.bor 1)) (cs := .nil) (elt := .bin .add (.bor 3) (.tup (.cons (.var 2) .nil))) (e := [some (dat (.int (n : Int))), some (.b (.lst (subs.map sideD))), some (dat (.int (t : Int))), none]) (e1 := [some (dat (.int (n : Int))), some (dat (.list (subs.map sideD))), some (dat (.int (t : Int))), none]) (w := [some (dat (.int (n : Int))), some (dat (.list (subs.map sideD))), some (dat (.int (t : Int))), none]) subs sideD (fun _ => true) (fun ks => sideD (ks ++ [t])) (by
          generalize subs.map sideD = L
          simp -implicitDefEqProofs [getB, B.toD, seqD, stillM]) rfl (fun ks hk => by
          refine ⟨[some (dat (.int (n : Int))), some (dat (.list (subs.map sideD))), some (dat (.int (t : Int))), some (dat (sideD ks))], ?_, rfl⟩
          have ha : binD .add (sideD ks) (.tuple [.int (t : Int)]) = some (dat (sideD (ks ++ [t]))) := by
            have := cat_tup (xs := nl ks) (ys := [.int (t : Int)]) (by have := (hg ks hk).2; simp; omega)
            rw [show sideD (ks ++ [t]) = .tuple (nl ks ++ [.int (t : Int)]) by simp [sideD, nl]]
            exact this
          have ht1 : ev (run tab k) (.tup (.cons (.var 2) .nil)) [some (dat (.int (n : Int))), some (dat (.list (subs.map sideD))), some (dat (.int (t : Int))), some (dat (sideD ks))] = some (dat (.tuple [.int (t : Int)]), [some (dat (.int (n : Int))), some (dat (.list (subs.map sideD))), some (dat (.int (t : Int))), some (dat (sideD ks))]) := ev_tup_of (ds := [.int (t : Int)]) (by
            generalize subs.map sideD = L
            generalize sideD ks = S
            simp -implicitDefEqProofs [getB, B.toD, lift, O.toD, stillM]) (by simp)
          generalize subs.map sideD = L at *
          generalize sideD (ks ++ [t]) = S2 at *
          generalize sideD ks = S at *
          simp -implicitDefEqProofs [-ev_tup, trnL, MP.bind, putO, getB, B.toD, lift, O.toD, now, stillM, ht1, ha]) (by omega)
      rw [List.filter_eq_self.mpr fun _ _ => rfl] at hlc
      have e2 : (subs.map fun ks => sideD (ks ++ [t])) = (subs.map (· ++ [t])).map sideD := by rw [List.map_map]; rfl
      rw [e2] at hlc
      have hcat := cat_lst (xs := subs.map sideD) (ys := (subs.map (· ++ [t])).map sideD) (by simp; omega)
      rw [← List.map_append] at hcat
      refine ⟨[some (dat (.int (n : Int))), some (.b (.lst (subs.map sideD))), some (dat (.int (t : Int))), none], by simp -implicitDefEqProofs [MP.bind, putO], Go.step (e' := [some (dat (.int (n : Int))), some (.b (.lst ((subs ++ subs.map (· ++ [t])).map sideD))), some (dat (.int (t : Int))), none]) ?_ (Go.nil ⟨rfl, subs ++ subs.map (· ++ [t]), _, rfl, ?_, fun ks hk => ?_⟩)⟩
      · generalize (subs ++ subs.map (· ++ [t])).map sideD = L3 at *
        generalize (subs.map (· ++ [t])).map sideD = L2 at *
        generalize subs.map sideD = L at *
        simp -implicitDefEqProofs [-ev_lc, getB, B.toD, lift, O.toD, now, putO, hlc, hcat]
      · rw [List.length_append, List.length_map, hl, Nat.pow_succ]
        omega
      · rcases List.mem_append.mp hk with hk | hk
        · exact ⟨(hg ks hk).1.up, Nat.le_succ_of_le (hg ks hk).2⟩
        · obtain ⟨k0, hk0, rfl⟩ := List.mem_map.mp hk
          refine ⟨(hg k0 hk0).1.snoc, ?_⟩
          rw [List.length_append]
          exact Nat.succ_le_succ (hg k0 hk0).2
    · intro e2 he
      obtain ⟨subs, o2, rfl, hl, hg⟩ := he
      rw [rng_len] at hg
      refine Go.ret (o := .b (.lst (subs.map sideD))) (e' := [some (dat (.int (n : Int))), none, o2, none]) ?_ ⟨_, rfl, rfl, subs, rfl, hg⟩
      generalize subs.map sideD = L
      simp -implicitDefEqProofs [])
  obtain ⟨rfl, subs, rfl, hg⟩ := q
  exact ⟨subs, h, hg⟩
theorem law_same (k : Nat) (a : Bool) : run tab (k + 1) 27 [dat (.bool a), dat (.bool a)] = some ([none, none], dat (.bool true)) := by
  rw [r__law_same]
  have sh : ∀ b : Bool, SeqAt.shaped (.bool b) = true := fun b => by cases b <;> rfl
  cases a <;> simp -implicitDefEqProofs [callF, f__law_same, b__law_same, tst, getB, B.toD, lift, O.toD, isiD, boolD, now, cmpD, eqOk, PyData.eqv, sh]
end K57P
set_option linter.all false
set_option maxRecDepth 100000
set_option maxHeartbeats 1000000
namespace K57P
open PySem MP
theorem law_orders (k : Nat) (p : List D) (hp : Pool p) : ∃ (p' : List D) (n : Nat) (as os : List Arc), run tab (k + 4) 34 [.b (.lst p)] = some ([some (.b (.lst p'))], dat (.tuple [.int (n : Int), .tuple (as.map arcD), .tuple (os.map arcD)])) ∧
    2 ≤ n ∧ n ≤ 4 ∧ as.length ≤ 4 ∧ (∀ a ∈ as, a.1 < n ∧ a.2.1 < n) ∧ os.length ≤ 3 ∧ ∀ o ∈ os, o.1 < n ∧ o.2.1 < n ∧ 1 ≤ o.2.2 := by
  rw [r__law_orders]
  have hsl := sl
  obtain ⟨p1, v1, h1, hp1, hv1⟩ := drawN (k + 1) p 3 hp (by omega) (by omega)
  obtain ⟨n, hn⟩ : ∃ n : Nat, n = 2 + v1 := ⟨_, rfl⟩
  have hn' : (2 : Int) + (v1 : Int) = (n : Int) := by omega
  obtain ⟨p2, v2, h2, hp2, hv2⟩ := drawN (k + 1) p1 5 hp1 (by omega) (by omega)
  obtain ⟨bs, o, h, q⟩ := call_ex (f := f__law_orders) (C := run tab (k + 3)) (xs := [.b (.lst p)]) (Q := fun bs o => ∃ (p' : List D) (as os : List Arc), bs = [some (.b (.lst p'))] ∧ o = dat (.tuple [.int (n : Int), .tuple (as.map arcD), .tuple (os.map arcD)]) ∧ as.length ≤ 4 ∧ (∀ a ∈ as, a.1 < n ∧ a.2.1 < n) ∧ os.length ≤ 3 ∧ ∀ o ∈ os, o.1 < n ∧ o.2.1 < n ∧ 1 ≤ o.2.2) rfl (by
    refine Go.step (e' := [some (.b (.lst p1)), some (dat (.int (n : Int))), none, none, none, none, none, none]) ?_ (Go.step (e' := [some (.b (.lst p1)), some (dat (.int (n : Int))), some (.b (.lst [])), none, none, none, none, none]) ?_ (Go.forr (xs := rngD 0 v2) (e1 := [some (.b (.lst p2)), some (dat (.int (n : Int))), some (.b (.lst [])), none, none, none, none, none]) (fun i e => ∃ (p : List D) (as : List Arc) (o3 o4 : Option O), e = [some (.b (.lst p)), some (dat (.int (n : Int))), some (.b (.lst (as.map arcD))), o3, o4, none, none, none] ∧ Pool p ∧ as.length = i ∧ ∀ a ∈ as, a.1 < n ∧ a.2.1 < n) ?_ ⟨p2, [], none, none, rfl, hp2, rfl, fun a ha => by cases ha⟩ ?_ ?_))
    · simp -implicitDefEqProofs [f__law_orders, getB, B.toD, lift, O.toD, now, stillM, evas_of, putBack, putO, addD, h1, hn']
    · rw [evS_set, ev_lst_of evs_nil (by simp)]
      rfl
    · refine evi_rng_of (by omega) ?_
      simp -implicitDefEqProofs [getB, B.toD, lift, O.toD, now, stillM, evas_of, putBack, putO, h2]
    · intro i y e hx he
      obtain ⟨p, as, o3, o4, rfl, hp, hl, hg⟩ := he
      obtain ⟨hi, rfl⟩ := rng_at hx
      obtain ⟨p4, v4, h4, hp4, hv4⟩ := drawN (k + 1) p ((n : Int) - 1) hp (by omega) (by omega)
      obtain ⟨p5, v5, h5, hp5, hv5⟩ := drawN (k + 1) p4 ((n : Int) - 1 - (v4 : Int)) hp4 (by omega) (by omega)
      obtain ⟨p6, v6, h6, hp6, hv6⟩ := drawN (k + 1) p5 5 hp5 (by omega) (by omega)
      obtain ⟨j, hj⟩ : ∃ j : Nat, j = v4 + 1 + v5 := ⟨_, rfl⟩
      have hj' : (v4 : Int) + 1 + (v5 : Int) = (j : Int) := by omega
      refine ⟨_, rfl, Go.step (e' := [some (.b (.lst p4)), some (dat (.int (n : Int))), some (.b (.lst (as.map arcD))), some (dat (.int (i : Int))), some (dat (.int (v4 : Int))), none, none, none]) ?_ (Go.step (e' := [some (.b (.lst p6)), some (dat (.int (n : Int))), some (.b (.lst ((as ++ [(v4, j, (v6 : Int))]).map arcD))), some (dat (.int (i : Int))), some (dat (.int (v4 : Int))), none, none, none]) ?_ (Go.nil ⟨rfl, p6, as ++ [(v4, j, (v6 : Int))], _, _, rfl, hp6, by simp [hl], fun a ha => ?_⟩))⟩
      · simp -implicitDefEqProofs [getB, B.toD, lift, O.toD, now, stillM, evas_of, putBack, putO, subD, h4]
      · have hlt : as.length < sizeLine := by omega
        have ht := ev_tup_of (C := run tab (k + 3)) (xs := .cons (.var 4) (.cons (.bin .add (.bin .add (.bor 4) (.cst (.int 1))) (.call 30 (.cons (.bor 0) (.cons (.bin .sub (.bin .sub (.bor 1) (.cst (.int 1))) (.bor 4)) .nil)))) (.cons (.call 30 (.cons (.bor 0) (.cons (.cst (.int 5)) .nil))) .nil))) (e := [some (.b (.lst p4)), some (dat (.int (n : Int))), some (.b (.lst (as.map arcD))), some (dat (.int (i : Int))), some (dat (.int (v4 : Int))), none, none, none]) (e' := [some (.b (.lst p6)), some (dat (.int (n : Int))), some (.b (.lst (as.map arcD))), some (dat (.int (i : Int))), some (dat (.int (v4 : Int))), none, none, none]) (ds := [.int (v4 : Int), .int (j : Int), .int (v6 : Int)]) (by
          simp -implicitDefEqProofs [getB, B.toD, lift, O.toD, now, stillM, evas_of, putBack, putO, addD, subD, h5, h6, hj']) (by simp)
        simp -implicitDefEqProofs [-ev_tup, lstAt, lift, O.toD, B.toD, putO, ht, hlt, arcD]
      · rcases List.mem_append.mp ha with ha | ha
        · exact hg a ha
        · rw [List.mem_singleton] at ha
          subst ha
          exact ⟨by show v4 < n; omega, by show j < n; omega⟩
    · intro e2 h
      obtain ⟨p, as, o3, o4, rfl, hp, hl, hg⟩ := h
      rw [rng_len] at hl
      obtain ⟨p7, v7, h7, hp7, hv7⟩ := drawN (k + 1) p 3 hp (by omega) (by omega)
      obtain ⟨m, hm⟩ : ∃ m : Nat, m = 1 + v7 := ⟨_, rfl⟩
      have hm' : (1 : Int) + (v7 : Int) = (m : Int) := by omega
      refine Go.step (e' := [some (.b (.lst p)), some (dat (.int (n : Int))), some (.b (.lst (as.map arcD))), o3, o4, some (.b (.lst [])), none, none]) ?_ (Go.forr (xs := rngD 0 m) (e1 := [some (.b (.lst p7)), some (dat (.int (n : Int))), some (.b (.lst (as.map arcD))), o3, o4, some (.b (.lst [])), none, none]) (fun i e => ∃ (p : List D) (os : List Arc) (o3 o6 o7 : Option O), e = [some (.b (.lst p)), some (dat (.int (n : Int))), some (.b (.lst (as.map arcD))), o3, o4, some (.b (.lst (os.map arcD))), o6, o7] ∧ Pool p ∧ os.length = i ∧ ∀ o ∈ os, o.1 < n ∧ o.2.1 < n ∧ 1 ≤ o.2.2) ?_ ⟨p7, [], o3, none, none, rfl, hp7, rfl, fun a ha => by cases ha⟩ ?_ ?_)
      · rw [evS_set, ev_lst_of evs_nil (by simp)]
        rfl
      · refine evi_rng_of (by omega) ?_
        generalize as.map arcD = L
        simp -implicitDefEqProofs [getB, B.toD, lift, O.toD, now, stillM, evas_of, putBack, putO, addD, h7, hm']
      · intro i y e hx he
        obtain ⟨p, os, o3, o6, o7, rfl, hp, hl, hg⟩ := he
        obtain ⟨hi, rfl⟩ := rng_at hx
        obtain ⟨p8, s, t, h8, hp8, hs, ht, hst⟩ := law_ends k n p hp (by omega) (by omega)
        obtain ⟨p9, v9, h9, hp9, hv9⟩ := drawN (k + 1) p8 4 hp8 (by omega) (by omega)
        refine ⟨_, rfl, Go.step (e' := [some (.b (.lst p8)), some (dat (.int (n : Int))), some (.b (.lst (as.map arcD))), some (dat (.int (i : Int))), o4, some (.b (.lst (os.map arcD))), some (dat (.int (s : Int))), some (dat (.int (t : Int)))]) ?_ (Go.step (e' := [some (.b (.lst p9)), some (dat (.int (n : Int))), some (.b (.lst (as.map arcD))), some (dat (.int (i : Int))), o4, some (.b (.lst ((os ++ [(s, t, (1 : Int) + (v9 : Int))]).map arcD))), some (dat (.int (s : Int))), some (dat (.int (t : Int)))]) ?_ (Go.nil ⟨rfl, p9, os ++ [(s, t, (1 : Int) + (v9 : Int))], _, _, _, rfl, hp9, by simp [hl], fun o ho => ?_⟩))⟩
        · generalize as.map arcD = L
          generalize os.map arcD = L2
          simp -implicitDefEqProofs [getB, B.toD, lift, O.toD, now, stillM, evas_of, putBack, putO, MP.bind, h8]
        · have hlt : os.length < sizeLine := by omega
          have ht := ev_tup_of (C := run tab (k + 3)) (xs := .cons (.var 6) (.cons (.var 7) (.cons (.bin .add (.cst (.int 1)) (.call 30 (.cons (.bor 0) (.cons (.cst (.int 4)) .nil)))) .nil))) (e := [some (.b (.lst p8)), some (dat (.int (n : Int))), some (.b (.lst (as.map arcD))), some (dat (.int (i : Int))), o4, some (.b (.lst (os.map arcD))), some (dat (.int (s : Int))), some (dat (.int (t : Int)))]) (e' := [some (.b (.lst p9)), some (dat (.int (n : Int))), some (.b (.lst (as.map arcD))), some (dat (.int (i : Int))), o4, some (.b (.lst (os.map arcD))), some (dat (.int (s : Int))), some (dat (.int (t : Int)))]) (ds := [.int (s : Int), .int (t : Int), .int ((1 : Int) + (v9 : Int))]) (by
            generalize as.map arcD = L
            generalize os.map arcD = L2
            simp -implicitDefEqProofs [getB, B.toD, lift, O.toD, now, stillM, evas_of, putBack, putO, addD, h9]) (by simp)
          simp -implicitDefEqProofs [-ev_tup, lstAt, lift, O.toD, B.toD, putO, ht, hlt, arcD]
        · rcases List.mem_append.mp ho with ho | ho
          · exact hg o ho
          · rw [List.mem_singleton] at ho
            subst ho
            exact ⟨hs, ht, by show 1 ≤ (1 : Int) + (v9 : Int); omega⟩
      · intro e2 h
        obtain ⟨p, os, o3, o6, o7, rfl, hp, hlo, hgo⟩ := h
        rw [rng_len] at hlo
        refine Go.ret (o := dat (.tuple [.int (n : Int), .tuple (as.map arcD), .tuple (os.map arcD)])) (e' := [some (.b (.lst p)), some (dat (.int (n : Int))), some (.b (.lst (as.map arcD))), o3, o4, some (.b (.lst (os.map arcD))), o6, o7]) (ev_tup_of ?_ (by simp)) ⟨_, rfl, p, as, os, rfl, rfl, by omega, hg, by omega, hgo⟩
        generalize as.map arcD = L
        generalize os.map arcD = L2
        simp -implicitDefEqProofs [getB, B.toD, lift, O.toD, stillM, biD])
  obtain ⟨p', as, os, rfl, rfl, q1, q2, q3, q4⟩ := q
  exact ⟨p', n, as, os, h, by omega, by omega, q1, q2, q3, q4⟩
end K57P
set_option linter.all false
set_option maxRecDepth 100000
set_option maxHeartbeats 1000000
namespace K57P
open PySem MP
/-- the places outside a side -/
def outS (n : Nat) (ks : List Nat) : List Nat := (List.range n).filter fun v => !mem ks v
theorem mem_out {n v : Nat} {ks : List Nat} (h : v < n) : mem (outS n ks) v = !mem ks v := by
  unfold outS
  show decide (v ∈ (List.range n).filter _) = _
  rw [Bool.eq_iff_iff, decide_eq_true_eq, List.mem_filter, List.mem_range]
  exact ⟨fun q => q.2, fun q => ⟨h, q⟩⟩
theorem asc_of {n : Nat} {l : List Nat} (h : l.Pairwise (· < ·)) (hn : ∀ k ∈ l, k < n) : Asc n l := by
  refine ⟨hn, fun i hi => ?_⟩
  have := List.pairwise_iff_getElem.mp h i (i + 1) (by omega) hi (by omega)
  simpa [List.getD_eq_getElem?_getD, show i < l.length by omega, hi] using this
theorem out_asc {n : Nat} {ks : List Nat} : Asc n (outS n ks) := asc_of (List.Pairwise.filter _ List.pairwise_lt_range) fun k hk => by
  have := (List.mem_filter.mp hk).1
  exact List.mem_range.mp this
theorem out_len {n : Nat} {ks : List Nat} : (outS n ks).length ≤ n := by
  have := List.length_filter_le (fun v => !mem ks v) (List.range n)
  rwa [List.length_range] at this
theorem in_cross {n : Nat} {as : List Arc} {ks : List Nat} (h : InNet n as) : inL as (outS n ks) = crossL as ks := by
  unfold inL crossL
  congr 2
  refine List.filter_congr fun a ha => ?_
  rw [mem_out (h a ha).1, mem_out (h a ha).2]
  cases mem ks a.1 <;> cases mem ks a.2.1 <;> rfl
/-- the needs of the law -/
def needs (n s t : Nat) (K : Int) : List Int := (List.range n).map fun v => if v = t then K else if v = s then 0 - K else 0
theorem needs_len {n s t : Nat} {K : Int} : (needs n s t K).length = n := by unfold needs; simp
theorem needs_get {n s t v : Nat} {K : Int} (h : v < n) : (needs n s t K).getD v 0 = if v = t then K else if v = s then 0 - K else 0 := by
  unfold needs
  rw [List.getD_eq_getElem?_getD, List.getElem?_map, List.getElem?_range h]
  rfl
theorem sum_filter {α : Type} {p : α → Bool} {h : α → Int} : ∀ zs : List α, ((zs.filter p).map h).sum = (zs.map fun z => if p z = true then h z else 0).sum
  | [] => rfl
  | z :: zs => by
    rw [List.filter_cons, List.map_cons, List.sum_cons, ← sum_filter zs]
    cases hp : p z with
    | true => simp
    | false => simp
theorem sum_congr {α : Type} {f g : α → Int} {zs : List α} (h : ∀ z ∈ zs, f z = g z) : (zs.map f).sum = (zs.map g).sum := by
  rw [List.map_congr_left h]
theorem sum_delta {t : Nat} {K : Int} : ∀ n : Nat, ((List.range n).map fun v => if v = t then K else 0).sum = if t < n then K else 0
  | 0 => by simp
  | n + 1 => by
    rw [List.range_succ, List.map_append, List.sum_append, sum_delta n]
    by_cases h : t < n
    · rw [if_pos h, if_pos (by omega)]
      have : ¬ n = t := by omega
      simp [this]
    · rw [if_neg h]
      by_cases h2 : n = t
      · subst h2
        simp
      · rw [if_neg (by omega)]
        simp [h2]
theorem sum_add {α : Type} {f g : α → Int} : ∀ zs : List α, (zs.map fun z => f z + g z).sum = (zs.map f).sum + (zs.map g).sum
  | [] => rfl
  | z :: zs => by
    rw [List.map_cons, List.map_cons, List.map_cons, List.sum_cons, List.sum_cons, List.sum_cons, sum_add zs]
    omega
theorem sum_neg {α : Type} {f : α → Int} : ∀ zs : List α, (zs.map fun z => - f z).sum = - (zs.map f).sum
  | [] => rfl
  | z :: zs => by
    rw [List.map_cons, List.map_cons, List.sum_cons, List.sum_cons, sum_neg zs]
    omega
theorem need_sum {n s t : Nat} {K : Int} {ks : List Nat} : needL (needs n s t K) (outS n ks) = ((List.range n).map fun v => if mem ks v = true then 0 else if v = t then K else if v = s then 0 - K else 0).sum := by
  unfold needL
  have e : (outS n ks).map (fun k => (needs n s t K).getD k 0) = (outS n ks).map fun v => if v = t then K else if v = s then 0 - K else 0 := List.map_congr_left fun v hv => needs_get (List.mem_range.mp (List.mem_filter.mp hv).1)
  rw [e]
  unfold outS
  rw [sum_filter]
  refine sum_congr fun v _ => ?_
  cases mem ks v <;> rfl
theorem need_cut {n s t : Nat} {K : Int} {ks : List Nat} (ht : t < n) (hst : s ≠ t) (h1 : mem ks s = true) (h2 : mem ks t = false) : needL (needs n s t K) (outS n ks) = K := by
  rw [need_sum]
  have e : ((List.range n).map fun v => if mem ks v = true then 0 else if v = t then K else if v = s then 0 - K else 0).sum = ((List.range n).map fun v => if v = t then K else 0).sum := sum_congr fun v _ => by
    by_cases z : v = t
    · subst z
      simp [h2]
    · by_cases y : v = s
      · subst y
        simp [h1, z]
      · simp [z, y]
  rw [e, sum_delta, if_pos ht]
/-- the two papers of a side are the same -/
theorem cut_crowd {n s t : Nat} {K : Int} {ks : List Nat} {as : List Arc} (hin : InNet n as) (ht : t < n) (hst : s ≠ t) (h1 : mem ks s = true) (h2 : mem ks t = false) :
    (mem ks s && (!mem ks t && decide (crossL as ks < K))) = decide (inL as (outS n ks) < needL (needs n s t K) (outS n ks)) := by
  rw [h1, h2, in_cross hin, need_cut ht hst h1 h2]
  rfl
/-! the linear paper -/
def xsOf (n : Nat) (os : List Nat) : List Int := (List.range n).map fun v => if mem os v = true then 1 else 0
def entry (a : Arc) (v : Nat) : Int := if a.2.1 = v then 1 else if a.1 = v then -1 else 0
def rowsOf (n : Nat) (as : List Arc) : List (List Int) := (List.range n).map fun v => as.map fun a => entry a v
theorem dot_range {f g : Nat → Int} {n : Nat} : dotL ((List.range n).map f) ((List.range n).map g) = ((List.range n).map fun v => f v * g v).sum := by
  unfold dotL
  rw [List.zip_map', List.map_map]
  rfl
theorem dot_needs {n s t : Nat} {K : Int} {ks : List Nat} : dotL (needs n s t K) (xsOf n (outS n ks)) = needL (needs n s t K) (outS n ks) := by
  rw [need_sum]
  unfold needs xsOf
  rw [dot_range]
  refine sum_congr fun v hv => ?_
  rw [mem_out (List.mem_range.mp hv)]
  cases mem ks v <;> simp
theorem col_rows {n i : Nat} {as : List Arc} {a : Arc} (h : as[i]? = some a) : col (rowsOf n as) i = (List.range n).map fun v => entry a v := by
  unfold col rowsOf
  rw [List.map_map]
  refine List.map_congr_left fun v _ => ?_
  show (as.map fun a => entry a v).getD i 0 = _
  rw [List.getD_eq_getElem?_getD, List.getElem?_map, h]
  rfl
def xv (os : List Nat) (v : Nat) : Int := if mem os v = true then 1 else 0
theorem dot_col {n i : Nat} {as : List Arc} {a : Arc} {os : List Nat} (h : as[i]? = some a) (h1 : a.1 < n) (h2 : a.2.1 < n) (hne : a.1 ≠ a.2.1) : dotL (col (rowsOf n as) i) (xsOf n os) = xv os a.2.1 - xv os a.1 := by
  rw [col_rows h]
  unfold xsOf
  rw [dot_range]
  have e : ((List.range n).map fun v => entry a v * (if mem os v = true then 1 else 0)).sum = ((List.range n).map fun v => (if v = a.2.1 then xv os a.2.1 else 0) + (if v = a.1 then - xv os a.1 else 0)).sum := sum_congr fun v _ => by
    unfold entry xv
    by_cases z : a.2.1 = v
    · subst z
      rw [if_pos rfl, if_pos rfl, if_neg (Ne.symm hne)]
      cases mem os a.2.1 <;> simp
    · rw [if_neg z, if_neg (Ne.symm z)]
      by_cases y : a.1 = v
      · subst y
        rw [if_pos rfl, if_pos rfl]
        cases mem os a.1 <;> simp
      · rw [if_neg y, if_neg (Ne.symm y)]
        simp
  rw [e, sum_add, sum_delta, sum_delta, if_pos h2, if_pos h1]
  omega
theorem xv_bd {os : List Nat} {v : Nat} : 0 ≤ xv os v ∧ xv os v ≤ 1 := by
  unfold xv
  cases mem os v <;> simp
theorem lin_at {n i : Nat} {as : List Arc} {a : Arc} {os : List Nat} (h : as[i]? = some a) (h1 : a.1 < n) (h2 : a.2.1 < n) (hne : a.1 ≠ a.2.1) (hc : 0 ≤ a.2.2) : linT (rowsOf n as) (as.map fun a => a.2.2) (xsOf n os) i = - if (!mem os a.1 && mem os a.2.1) = true then a.2.2 else 0 := by
  unfold linT
  rw [dot_col h h1 h2 hne]
  have : (as.map fun a => a.2.2).getD i 0 = a.2.2 := by rw [List.getD_eq_getElem?_getD, List.getElem?_map, h]; rfl
  rw [this]
  unfold lpv xv
  cases mem os a.1 <;> cases mem os a.2.1 <;> simp <;> omega
theorem sum_range_get {g : Nat → Int} {h : Arc → Int} : ∀ {as : List Arc}, (∀ i a, as[i]? = some a → g i = h a) → ((List.range as.length).map g).sum = (as.map h).sum := by
  intro as
  induction as generalizing g with
  | nil => intro _; rfl
  | cons a as ih =>
    intro hg
    rw [List.length_cons, List.range_succ_eq_map, List.map_cons, List.sum_cons, List.map_map, List.map_cons, List.sum_cons, hg 0 a rfl]
    congr 1
    exact ih fun i b hb => hg (i + 1) b (by simpa using hb)
theorem lin_crowd {n s t : Nat} {K : Int} {ks : List Nat} {as : List Arc} (hN : Net n as) : decide (0 < linF (rowsOf n as) (needs n s t K) (as.map fun a => a.2.2) (xsOf n (outS n ks)) as.length) = decide (inL as (outS n ks) < needL (needs n s t K) (outS n ks)) := by
  unfold linF
  rw [dot_needs, sum_range_get (h := fun a => - if (!mem (outS n ks) a.1 && mem (outS n ks) a.2.1) = true then a.2.2 else 0) fun i a ha => by
    obtain ⟨h1, h2, h3, h4, _⟩ := hN.2.2.2 a (List.mem_of_getElem? ha)
    exact lin_at ha h1 h2 h3 h4, sum_neg]
  have e : inL as (outS n ks) = (as.map fun a => if (!mem (outS n ks) a.1 && mem (outS n ks) a.2.1) = true then a.2.2 else 0).sum := by
    unfold inL
    rw [sum_filter]
  rw [e, Bool.eq_iff_iff, decide_eq_true_eq, decide_eq_true_eq]
  constructor <;> intro h <;> omega
theorem lin_bound {n : Nat} {as : List Arc} {os : List Nat} (hN : Net n as) : ∀ i, i < as.length → -10000000000 ≤ 0 * 0 - dotL (col (rowsOf n as) i) (xsOf n os) ∧ 0 * 0 - dotL (col (rowsOf n as) i) (xsOf n os) ≤ 10000000000 := fun i hi => by
  obtain ⟨a, ha⟩ : ∃ a, as[i]? = some a := ⟨as[i], List.getElem?_eq_getElem hi⟩
  obtain ⟨h1, h2, h3, _⟩ := hN.2.2.2 a (List.mem_of_getElem? ha)
  rw [dot_col ha h1 h2 h3]
  have b1 := xv_bd (os := os) (v := a.1)
  have b2 := xv_bd (os := os) (v := a.2.1)
  omega
/-! the orders' paper -/
def lenOf (ks : List Nat) (as : List Arc) : List Int := as.map fun a => if sepB ks a = true then 1 else 0
theorem zip_lens {ks : List Nat} {as : List Arc} {z : Arc × Int} (h : z ∈ as.zip (lenOf ks as)) : z.1 ∈ as ∧ z.2 = if sepB ks z.1 = true then 1 else 0 := by
  unfold lenOf at h
  have e : as.zip (as.map fun a => if sepB ks a = true then (1 : Int) else 0) = as.map fun a => (a, if sepB ks a = true then (1 : Int) else 0) := by
    have := List.zip_map' (f := fun a : Arc => a) (g := fun a : Arc => if sepB ks a = true then (1 : Int) else 0) (l := as)
    simpa using this
  rw [e] at h
  obtain ⟨a, ha, rfl⟩ := List.mem_map.mp h
  exact ⟨ha, rfl⟩
theorem lens_tie {n : Nat} {ks : List Nat} {as : List Arc} (h : ∀ a ∈ as, a.1 < n ∧ a.2.1 < n) : ∀ z ∈ as.zip (lenOf ks as), TieOk n ks z := fun z hz => by
  obtain ⟨h1, h2⟩ := zip_lens hz
  obtain ⟨h3, h4⟩ := h _ h1
  refine ⟨h3, h4, ?_, ?_, fun w => ?_⟩
  · rw [h2]; split <;> omega
  · rw [h2]; split <;> omega
  · rw [h2, if_pos (by unfold sepB; simpa using w)]
    exact Int.le_refl _
theorem lens_bd {ks : List Nat} {as : List Arc} : ∀ l ∈ lenOf ks as, 0 ≤ l ∧ l ≤ 1 := fun l hl => by
  obtain ⟨a, _, rfl⟩ := List.mem_map.mp hl
  split <;> omega
theorem cross_lens {ks : List Nat} {as : List Arc} : crossS as (lenOf ks as) = ((as.filter (sepB ks)).map fun a => a.2.2).sum := by
  unfold crossS lenOf
  have e : as.zip (as.map fun a => if sepB ks a = true then (1 : Int) else 0) = as.map fun a => (a, if sepB ks a = true then (1 : Int) else 0) := by
    have := List.zip_map' (f := fun a : Arc => a) (g := fun a : Arc => if sepB ks a = true then (1 : Int) else 0) (l := as)
    simpa using this
  rw [e, List.map_map, sum_filter]
  refine sum_congr fun a _ => ?_
  show a.2.2 * (if sepB ks a = true then (1 : Int) else 0) = _
  split <;> simp
end K57P
set_option linter.all false
set_option maxRecDepth 100000
set_option maxHeartbeats 2000000
namespace K57P
open PySem MP
def b_side : Ss := (.cons (.set 17 (.bi .tuple (.lc [9] (.nm 9) (.rng (.var 3)) (.cons (.cmp .notIn (.bor 9) (.bor 16)) .nil) (.var 9)))) (.cons (.set 18 (.call 26 (.cons (.tup (.cons (.cst (.str "flow")) (.cons (.var 2) (.cons (.var 5) (.cons (.var 6) (.cons (.var 7) .nil)))))) (.cons (.tup (.cons (.cst (.str "cut")) (.cons (.var 16) .nil))) .nil)))) (.cons (.set 19 (.call 26 (.cons (.tup (.cons (.cst (.str "need")) (.cons (.var 10) (.cons (.var 8) .nil)))) (.cons (.tup (.cons (.cst (.str "crowd")) (.cons (.var 17) .nil))) .nil)))) (.cons (.ife (.or (.cons (.and (.cons (.cmp .inn (.bor 5) (.bor 16)) (.cons (.cmp .notIn (.bor 6) (.bor 16)) (.cons (.cmp .ne (.bor 18) (.bor 19)) .nil)))) (.cons (.and (.cons (.var 18) (.cons (.not (.var 19)) .nil))) (.cons (.not (.call 27 (.cons (.call 26 (.cons (.var 14) (.cons (.tup (.cons (.cst (.str "crowd")) (.cons (.var 17) .nil))) .nil))) (.cons (.var 19) .nil)))) .nil)))) (.cons (.ret (.cst (.bool false))) .nil) .nil) (.cons (.ife (.cmp .gt (.bi .len (.bor 4)) (.cst (.int 0))) (.cons (.set 20 (.tup (.cons (.cst (.str "linear")) (.cons (.var 15) (.cons (.var 8) (.cons (.bin .mul (.tup (.cons (.cst (.int 0)) .nil)) (.bi .len (.bor 4))) (.cons (.bi .tuple (.lc [11, 12, 13] (.cons (.nm 11) (.cons (.nm 12) (.t1 (.nm 13)))) (.dat (.bor 4)) .nil (.var 13))) (.cons (.bin .mul (.tup (.cons (.cst (.int 0)) .nil)) (.bi .len (.bor 4))) (.cons (.cst .none) .nil))))))))) (.cons (.set 21 (.bi .tuple (.lc [9] (.nm 9) (.rng (.var 3)) .nil (.tup (.cons (.ife (.cmp .inn (.bor 9) (.bor 17)) (.cst (.int 1)) (.cst (.int 0))) (.cons (.cst (.int 1)) .nil)))))) (.cons (.ife (.cmp .ne (.call 26 (.cons (.var 20) (.cons (.tup (.cons (.cst (.str "weights")) (.cons (.var 21) (.cons (.tup (.cons (.cst (.int 0)) (.cons (.cst (.int 1)) .nil))) .nil)))) .nil))) (.bor 19)) (.cons (.ret (.cst (.bool false))) .nil) .nil) .nil))) .nil) .nil)))))
def b_part : Ss := (.cons (.set 24 (.bi .tuple (.lc [11, 12, 13] (.cons (.nm 11) (.cons (.nm 12) (.t1 (.nm 13)))) (.dat (.bor 22)) .nil (.ife (.cmp .ne (.cmp .inn (.bor 11) (.bor 16)) (.cmp .inn (.bor 12) (.bor 16))) (.tup (.cons (.cst (.int 1)) (.cons (.cst (.int 1)) .nil))) (.tup (.cons (.cst (.int 0)) (.cons (.cst (.int 1)) .nil))))))) (.cons (.set 25 (.bi .sum (.lc [26, 9, 27] (.cons (.nm 26) (.cons (.nm 9) (.t1 (.nm 27)))) (.dat (.bor 23)) (.cons (.cmp .ne (.cmp .inn (.bor 26) (.bor 16)) (.cmp .inn (.bor 9) (.bor 16))) .nil) (.var 27)))) (.cons (.set 28 (.bi .sum (.lc [11, 12, 13] (.cons (.nm 11) (.cons (.nm 12) (.t1 (.nm 13)))) (.dat (.bor 22)) (.cons (.cmp .ne (.cmp .inn (.bor 11) (.bor 16)) (.cmp .inn (.bor 12) (.bor 16))) .nil) (.var 13)))) (.cons (.ife (.and (.cons (.cmp .gt (.bor 25) (.bor 28)) (.cons (.not (.call 26 (.cons (.tup (.cons (.cst (.str "orders")) (.cons (.var 3) (.cons (.var 22) (.cons (.var 23) .nil))))) (.cons (.tup (.cons (.cst (.str "lengths")) (.cons (.var 24) .nil))) .nil)))) .nil))) (.cons (.ret (.cst (.bool false))) .nil) .nil) .nil))))
def b_fin : Ss := (.cons (.unp (.cons (.nm 3) (.cons (.nm 22) (.t1 (.nm 23)))) (.call 34 (.cons (.bor 1) .nil))) (.cons (.forr (.nm 16) (.dat (.call 31 (.cons (.var 3) .nil))) (.cons (.set 24 (.bi .tuple (.lc [11, 12, 13] (.cons (.nm 11) (.cons (.nm 12) (.t1 (.nm 13)))) (.dat (.bor 22)) .nil (.ife (.cmp .ne (.cmp .inn (.bor 11) (.bor 16)) (.cmp .inn (.bor 12) (.bor 16))) (.tup (.cons (.cst (.int 1)) (.cons (.cst (.int 1)) .nil))) (.tup (.cons (.cst (.int 0)) (.cons (.cst (.int 1)) .nil))))))) (.cons (.set 25 (.bi .sum (.lc [26, 9, 27] (.cons (.nm 26) (.cons (.nm 9) (.t1 (.nm 27)))) (.dat (.bor 23)) (.cons (.cmp .ne (.cmp .inn (.bor 26) (.bor 16)) (.cmp .inn (.bor 9) (.bor 16))) .nil) (.var 27)))) (.cons (.set 28 (.bi .sum (.lc [11, 12, 13] (.cons (.nm 11) (.cons (.nm 12) (.t1 (.nm 13)))) (.dat (.bor 22)) (.cons (.cmp .ne (.cmp .inn (.bor 11) (.bor 16)) (.cmp .inn (.bor 12) (.bor 16))) .nil) (.var 13)))) (.cons (.ife (.and (.cons (.cmp .gt (.bor 25) (.bor 28)) (.cons (.not (.call 26 (.cons (.tup (.cons (.cst (.str "orders")) (.cons (.var 3) (.cons (.var 22) (.cons (.var 23) .nil))))) (.cons (.tup (.cons (.cst (.str "lengths")) (.cons (.var 24) .nil))) .nil)))) .nil))) (.cons (.ret (.cst (.bool false))) .nil) .nil) .nil))))) (.cons (.ret (.cst (.bool true))) .nil)))
def b_rest : Ss := (.cons (.forr (.nm 16) (.dat (.call 31 (.cons (.var 3) .nil))) b_side) b_fin)

theorem ne_bool {a b : Bool} : cmpD .ne (.bool a) (.bool b) = some (a != b) := by
  have sh : ∀ b : Bool, SeqAt.shaped (.bool b) = true := fun b => by cases b <;> rfl
  cases a <;> cases b <;> simp [cmpD, eqOk, sh, PyData.eqv]
theorem mulT {m : Nat} (hm : m ≤ 1000) : binD .mul (.tuple [.int 0]) (.int (m : Int)) = some (dat (.tuple (il (List.replicate m 0)))) := by
  have r0 : ∀ m : Nat, (List.replicate m [PyData.int 0]).flatten = il (List.replicate m 0) := fun m => by
    induction m with
    | zero => rfl
    | succ n ih => rw [List.replicate_succ, List.flatten_cons, ih]; rfl
  show (if ([PyData.int 0] ≠ [] ∧ ([PyData.int 0] : List D).length ≤ 1000 ∧ 0 ≤ (m : Int) ∧ (m : Int) ≤ 1000) then some (dat (.tuple (List.replicate (m : Int).toNat [PyData.int 0]).flatten)) else none) = _
  rw [if_pos ⟨by simp, by simp, by omega, by omega⟩, Int.toNat_natCast, r0]
/-- a tuple made of the arcs -/
theorem arcs_lc {C : CallF} {elt : M} {e w : Env'} (as : List Arc) (f : Arc → D) (hi : evi C (.dat (.bor 4)) e = some (as.map arcD, e)) (hw : wipe' e [11, 12, 13] = w) (ht : ∀ a ∈ as, ∃ e', trnL C (.cons (.nm 11) (.cons (.nm 12) (.t1 (.nm 13)))) .nil elt (arcD a) w = some (some (f a), e') ∧ wipe' e' [11, 12, 13] = w) (hl : as.length ≤ 1000) :
    ev C (.bi .tuple (.lc [11, 12, 13] (.cons (.nm 11) (.cons (.nm 12) (.t1 (.nm 13)))) (.dat (.bor 4)) .nil elt)) e = some (dat (.tuple (as.map f)), w) := by
  have := lc_tup (C := C) (own := [11, 12, 13]) (tg := .cons (.nm 11) (.cons (.nm 12) (.t1 (.nm 13)))) (cs := .nil) (elt := elt) as arcD (fun _ => true) f hi hw (fun a ha => by
    obtain ⟨e', h1, h2⟩ := ht a ha
    exact ⟨e', by rw [h1]; rfl, h2⟩) hl
  rw [List.filter_eq_self.mpr fun _ _ => rfl] at this
  exact this
/-- a tuple made of the places that a test keeps -/
theorem rng_lc {C : CallF} {elt : M} {cs : Ms} {e w : Env'} (n : Nat) (p : Nat → Bool) (f : Nat → D) (hn : n ≤ 1000) (hi : lift (ev C (.var 3) e) = some (.int (n : Int), e)) (hw : wipe' e [9] = w) (ht : ∀ v, v < n → ∃ e', trnL C (.nm 9) cs elt (.int (v : Int)) w = some (if p v = true then some (f v) else none, e') ∧ wipe' e' [9] = w) :
    ev C (.bi .tuple (.lc [9] (.nm 9) (.rng (.var 3)) cs elt)) e = some (dat (.tuple (((List.range n).filter p).map f)), w) :=
  lc_tup (C := C) (own := [9]) (tg := .nm 9) (cs := cs) (elt := elt) (List.range n) (fun i => .int ((0 : Int) + (i : Int))) p f (evi_rng_of hn hi) hw (fun v hv => by
    rw [Int.zero_add]
    exact ht v (List.mem_range.mp hv)) (by rw [List.length_range]; omega)
theorem side (k n s t : Nat) (K : Int) (as : List Arc) (ks : List Nat) (S0 P0 x17 x18 x19 x20 x21 : Option O) (N A ND BD TK RW : D) (hN : Net n as) (hs : s < n) (ht : t < n) (hst : s ≠ t) (ha : Asc n ks) (hkl : ks.length ≤ n)
    (eN : N = netD n as) (eA : A = .tuple (as.map arcD)) (eND : ND = .tuple (il (needs n s t K))) (eBD : BD = .tuple [.int (n : Int), .tuple (as.map (arcR []))]) (eTK : TK = .tuple [.str "task", .int (n : Int), .tuple (as.map (arcR [.int 0])), ND, .none]) (eRW : RW = .tuple ((rowsOf n as).map fun r => .tuple (il r))) :
    Go (run tab (k + 6)) b_side [S0, P0, some (dat N), some (dat (.int (n : Int))), some (dat A), some (dat (.int (s : Int))), some (dat (.int (t : Int))), some (dat (.int K)), some (dat ND), none, some (dat BD), none, none, none, some (dat TK), some (dat RW), some (dat (sideD ks)), x17, x18, x19, x20, x21, none, none, none, none, none, none, none] fun fl e2 => fl = .nx ∧ ∃ y17 y18 y19 y20 y21, e2 = [S0, P0, some (dat N), some (dat (.int (n : Int))), some (dat A), some (dat (.int (s : Int))), some (dat (.int (t : Int))), some (dat (.int K)), some (dat ND), none, some (dat BD), none, none, none, some (dat TK), some (dat RW), some (dat (sideD ks)), y17, y18, y19, y20, y21, none, none, none, none, none, none, none] := by
  have hn7 := hN.2.1
  have hl14 := hN.2.2.1
  have os_asc := out_asc (n := n) (ks := ks)
  have os_len := out_len (n := n) (ks := ks)
  have jf : run tab (k + 6) 26 [dat (.tuple [.str "flow", N, .int (s : Int), .int (t : Int), .int K]), dat (.tuple [.str "cut", sideD ks])] = some ([none, none], dat (.bool (mem ks s && (!mem ks t && decide (crossL as ks < K))))) := by
    rw [eN]
    exact judge (k + 5) "flow" "Flow" 19 _ _ _ _ rfl (flow_judge k n s t K as ks (by omega) ha (by omega))
  have jn : run tab (k + 6) 26 [dat (.tuple [.str "need", BD, ND]), dat (.tuple [.str "crowd", sideD (outS n ks)])] = some ([none, none], dat (.bool (decide (inL as (outS n ks) < needL (needs n s t K) (outS n ks))))) := by
    rw [eBD, eND]
    exact judge (k + 5) "need" "Need" 20 _ _ _ _ rfl (need_judge (k + 1) n as (needs n s t K) (outS n ks) (by omega) os_asc (by omega) needs_len)
  have jt : run tab (k + 6) 26 [dat TK, dat (.tuple [.str "crowd", sideD (outS n ks)])] = some ([none, none], dat (.bool (decide (inL as (outS n ks) < needL (needs n s t K) (outS n ks))))) := by
    rw [eTK, eND]
    exact judge (k + 5) "task" "Task" 17 _ _ _ _ rfl (task_judge (k + 1) n as (needs n s t K) (outS n ks) (by omega) os_asc (by omega) needs_len)
  have xlen : (xsOf n (outS n ks)).length = n := by unfold xsOf; simp
  have jl : run tab (k + 6) 26 [dat (.tuple [.str "linear", RW, ND, .tuple (il (List.replicate as.length 0)), .tuple (il (as.map fun a => a.2.2)), .tuple (il (List.replicate as.length 0)), .none]), dat (linV (xsOf n (outS n ks)))] = some ([none, none], dat (.bool (decide (inL as (outS n ks) < needL (needs n s t K) (outS n ks))))) := by
    rw [eRW, eND, ← lin_crowd hN]
    exact judge (k + 5) "linear" "Linear" 23 _ _ _ _ rfl (linear_judge k n as.length (rowsOf n as) (needs n s t K) (as.map fun a => a.2.2) (xsOf n (outS n ks)) (by unfold rowsOf; simp) needs_len xlen (by simp) (fun r hr => by
      unfold rowsOf at hr
      obtain ⟨v, _, rfl⟩ := List.mem_map.mp hr
      simp) (by omega) (by omega) (fun x hx => by
      unfold xsOf at hx
      obtain ⟨v, _, rfl⟩ := List.mem_map.mp hx
      split <;> omega) (lin_bound hN))
  have ls := law_same (k + 5) (decide (inL as (outS n ks) < needL (needs n s t K) (outS n ks)))
  have fA : mem ks s = true → mem ks t = false → (mem ks s && (!mem ks t && decide (crossL as ks < K))) = decide (inL as (outS n ks) < needL (needs n s t K) (outS n ks)) := fun h1 h2 => cut_crowd hN.inn ht hst h1 h2
  have m5 : cmpD .inn (.int (s : Int)) (sideD ks) = some (mem ks s) := in_nl
  have m6 : cmpD .notIn (.int (t : Int)) (sideD ks) = some (!mem ks t) := nin_nl
  have h17 : ∀ x17 x18 x19 x20 x21, ev (run tab (k + 6)) (.bi .tuple (.lc [9] (.nm 9) (.rng (.var 3)) (.cons (.cmp .notIn (.bor 9) (.bor 16)) .nil) (.var 9))) [S0, P0, some (dat N), some (dat (.int (n : Int))), some (dat A), some (dat (.int (s : Int))), some (dat (.int (t : Int))), some (dat (.int K)), some (dat ND), none, some (dat BD), none, none, none, some (dat TK), some (dat RW), some (dat (sideD ks)), x17, x18, x19, x20, x21, none, none, none, none, none, none, none] = some (dat (sideD (outS n ks)), [S0, P0, some (dat N), some (dat (.int (n : Int))), some (dat A), some (dat (.int (s : Int))), some (dat (.int (t : Int))), some (dat (.int K)), some (dat ND), none, some (dat BD), none, none, none, some (dat TK), some (dat RW), some (dat (sideD ks)), x17, x18, x19, x20, x21, none, none, none, none, none, none, none]) := fun x17 x18 x19 x20 x21 => by
    have := rng_lc (C := run tab (k + 6)) (elt := .var 9) (cs := .cons (.cmp .notIn (.bor 9) (.bor 16)) .nil) (e := [S0, P0, some (dat N), some (dat (.int (n : Int))), some (dat A), some (dat (.int (s : Int))), some (dat (.int (t : Int))), some (dat (.int K)), some (dat ND), none, some (dat BD), none, none, none, some (dat TK), some (dat RW), some (dat (sideD ks)), x17, x18, x19, x20, x21, none, none, none, none, none, none, none]) (w := [S0, P0, some (dat N), some (dat (.int (n : Int))), some (dat A), some (dat (.int (s : Int))), some (dat (.int (t : Int))), some (dat (.int K)), some (dat ND), none, some (dat BD), none, none, none, some (dat TK), some (dat RW), some (dat (sideD ks)), x17, x18, x19, x20, x21, none, none, none, none, none, none, none]) n (fun v => !mem ks v) (fun v => .int (v : Int)) (by omega) (by simp -implicitDefEqProofs [getB, B.toD, lift, O.toD, stillM]) rfl (fun v hv => by
      have m9 : cmpD .notIn (.int (v : Int)) (sideD ks) = some (!mem ks v) := nin_nl
      refine ⟨[S0, P0, some (dat N), some (dat (.int (n : Int))), some (dat A), some (dat (.int (s : Int))), some (dat (.int (t : Int))), some (dat (.int K)), some (dat ND), some (dat (.int (v : Int))), some (dat BD), none, none, none, some (dat TK), some (dat RW), some (dat (sideD ks)), x17, x18, x19, x20, x21, none, none, none, none, none, none, none], ?_, rfl⟩
      generalize sideD ks = SD at *
      generalize mem ks v = b at *
      cases b <;> simp -implicitDefEqProofs [trnL, MP.bind, putO, getB, B.toD, lift, O.toD, boolD, now, stillM, m9])
    exact this
  have h21 : ∀ x18 x19 x20 x21, ev (run tab (k + 6)) (.bi .tuple (.lc [9] (.nm 9) (.rng (.var 3)) .nil (.tup (.cons (.ife (.cmp .inn (.bor 9) (.bor 17)) (.cst (.int 1)) (.cst (.int 0))) (.cons (.cst (.int 1)) .nil))))) [S0, P0, some (dat N), some (dat (.int (n : Int))), some (dat A), some (dat (.int (s : Int))), some (dat (.int (t : Int))), some (dat (.int K)), some (dat ND), none, some (dat BD), none, none, none, some (dat TK), some (dat RW), some (dat (sideD ks)), some (dat (sideD (outS n ks))), x18, x19, x20, x21, none, none, none, none, none, none, none] = some (dat (.tuple ((xsOf n (outS n ks)).map qi)), [S0, P0, some (dat N), some (dat (.int (n : Int))), some (dat A), some (dat (.int (s : Int))), some (dat (.int (t : Int))), some (dat (.int K)), some (dat ND), none, some (dat BD), none, none, none, some (dat TK), some (dat RW), some (dat (sideD ks)), some (dat (sideD (outS n ks))), x18, x19, x20, x21, none, none, none, none, none, none, none]) := fun x18 x19 x20 x21 => by
    have := rng_lc (C := run tab (k + 6)) (elt := .tup (.cons (.ife (.cmp .inn (.bor 9) (.bor 17)) (.cst (.int 1)) (.cst (.int 0))) (.cons (.cst (.int 1)) .nil))) (cs := .nil) (e := [S0, P0, some (dat N), some (dat (.int (n : Int))), some (dat A), some (dat (.int (s : Int))), some (dat (.int (t : Int))), some (dat (.int K)), some (dat ND), none, some (dat BD), none, none, none, some (dat TK), some (dat RW), some (dat (sideD ks)), some (dat (sideD (outS n ks))), x18, x19, x20, x21, none, none, none, none, none, none, none]) (w := [S0, P0, some (dat N), some (dat (.int (n : Int))), some (dat A), some (dat (.int (s : Int))), some (dat (.int (t : Int))), some (dat (.int K)), some (dat ND), none, some (dat BD), none, none, none, some (dat TK), some (dat RW), some (dat (sideD ks)), some (dat (sideD (outS n ks))), x18, x19, x20, x21, none, none, none, none, none, none, none]) n (fun v => true) (fun v => qi (xv (outS n ks) v)) (by omega) (by simp -implicitDefEqProofs [getB, B.toD, lift, O.toD, stillM]) rfl (fun v hv => by
      have m9 : cmpD .inn (.int (v : Int)) (sideD (outS n ks)) = some (mem (outS n ks) v) := in_nl
      have hq : ev (run tab (k + 6)) (.tup (.cons (.ife (.cmp .inn (.bor 9) (.bor 17)) (.cst (.int 1)) (.cst (.int 0))) (.cons (.cst (.int 1)) .nil))) [S0, P0, some (dat N), some (dat (.int (n : Int))), some (dat A), some (dat (.int (s : Int))), some (dat (.int (t : Int))), some (dat (.int K)), some (dat ND), some (dat (.int (v : Int))), some (dat BD), none, none, none, some (dat TK), some (dat RW), some (dat (sideD ks)), some (dat (sideD (outS n ks))), x18, x19, x20, x21, none, none, none, none, none, none, none] = some (dat (qi (xv (outS n ks) v)), [S0, P0, some (dat N), some (dat (.int (n : Int))), some (dat A), some (dat (.int (s : Int))), some (dat (.int (t : Int))), some (dat (.int K)), some (dat ND), some (dat (.int (v : Int))), some (dat BD), none, none, none, some (dat TK), some (dat RW), some (dat (sideD ks)), some (dat (sideD (outS n ks))), x18, x19, x20, x21, none, none, none, none, none, none, none]) := ev_tup_of (ds := [.int (xv (outS n ks) v), .int 1]) (by
        unfold xv
        generalize sideD (outS n ks) = OD at *
        generalize sideD ks = SD at *
        generalize mem (outS n ks) v = b at *
        cases b <;> simp -implicitDefEqProofs [getB, B.toD, lift, O.toD, boolD, now, stillM, m9]) (by simp)
      refine ⟨[S0, P0, some (dat N), some (dat (.int (n : Int))), some (dat A), some (dat (.int (s : Int))), some (dat (.int (t : Int))), some (dat (.int K)), some (dat ND), some (dat (.int (v : Int))), some (dat BD), none, none, none, some (dat TK), some (dat RW), some (dat (sideD ks)), some (dat (sideD (outS n ks))), x18, x19, x20, x21, none, none, none, none, none, none, none], ?_, rfl⟩
      generalize sideD (outS n ks) = OD at *
      generalize sideD ks = SD at *
      generalize qi (xv (outS n ks) v) = q at *
      simp -implicitDefEqProofs [-ev_tup, trnL, MP.bind, putO, lift, O.toD, B.toD, hq])
    rw [this, List.filter_eq_self.mpr fun _ _ => rfl]
    unfold xsOf xv
    rw [List.map_map]
    rfl
  have h20 : ∀ x18 x19 x20 x21, ev (run tab (k + 6)) (.bi .tuple (.lc [11, 12, 13] (.cons (.nm 11) (.cons (.nm 12) (.t1 (.nm 13)))) (.dat (.bor 4)) .nil (.var 13))) [S0, P0, some (dat N), some (dat (.int (n : Int))), some (dat A), some (dat (.int (s : Int))), some (dat (.int (t : Int))), some (dat (.int K)), some (dat ND), none, some (dat BD), none, none, none, some (dat TK), some (dat RW), some (dat (sideD ks)), some (dat (sideD (outS n ks))), x18, x19, x20, x21, none, none, none, none, none, none, none] = some (dat (.tuple (il (as.map fun a => a.2.2))), [S0, P0, some (dat N), some (dat (.int (n : Int))), some (dat A), some (dat (.int (s : Int))), some (dat (.int (t : Int))), some (dat (.int K)), some (dat ND), none, some (dat BD), none, none, none, some (dat TK), some (dat RW), some (dat (sideD ks)), some (dat (sideD (outS n ks))), x18, x19, x20, x21, none, none, none, none, none, none, none]) := fun x18 x19 x20 x21 => by
    have := arcs_lc (C := run tab (k + 6)) (elt := .var 13) (e := [S0, P0, some (dat N), some (dat (.int (n : Int))), some (dat A), some (dat (.int (s : Int))), some (dat (.int (t : Int))), some (dat (.int K)), some (dat ND), none, some (dat BD), none, none, none, some (dat TK), some (dat RW), some (dat (sideD ks)), some (dat (sideD (outS n ks))), x18, x19, x20, x21, none, none, none, none, none, none, none]) (w := [S0, P0, some (dat N), some (dat (.int (n : Int))), some (dat A), some (dat (.int (s : Int))), some (dat (.int (t : Int))), some (dat (.int K)), some (dat ND), none, some (dat BD), none, none, none, some (dat TK), some (dat RW), some (dat (sideD ks)), some (dat (sideD (outS n ks))), x18, x19, x20, x21, none, none, none, none, none, none, none]) as (fun a => .int a.2.2) (by rw [eA]; simp -implicitDefEqProofs [getB, B.toD, seqD, stillM]) rfl (fun a ha' => by
      have hb : MP.bind (.cons (.nm 11) (.cons (.nm 12) (.t1 (.nm 13)))) (arcD a) [S0, P0, some (dat N), some (dat (.int (n : Int))), some (dat A), some (dat (.int (s : Int))), some (dat (.int (t : Int))), some (dat (.int K)), some (dat ND), none, some (dat BD), none, none, none, some (dat TK), some (dat RW), some (dat (sideD ks)), some (dat (sideD (outS n ks))), x18, x19, x20, x21, none, none, none, none, none, none, none] = some [S0, P0, some (dat N), some (dat (.int (n : Int))), some (dat A), some (dat (.int (s : Int))), some (dat (.int (t : Int))), some (dat (.int K)), some (dat ND), none, some (dat BD), some (dat (.int (a.1 : Int))), some (dat (.int (a.2.1 : Int))), some (dat (.int a.2.2)), some (dat TK), some (dat RW), some (dat (sideD ks)), some (dat (sideD (outS n ks))), x18, x19, x20, x21, none, none, none, none, none, none, none] := by simp [MP.bind, arcD, putO]
      refine ⟨[S0, P0, some (dat N), some (dat (.int (n : Int))), some (dat A), some (dat (.int (s : Int))), some (dat (.int (t : Int))), some (dat (.int K)), some (dat ND), none, some (dat BD), some (dat (.int (a.1 : Int))), some (dat (.int (a.2.1 : Int))), some (dat (.int a.2.2)), some (dat TK), some (dat RW), some (dat (sideD ks)), some (dat (sideD (outS n ks))), x18, x19, x20, x21, none, none, none, none, none, none, none], ?_, rfl⟩
      generalize sideD (outS n ks) = OD at *
      generalize sideD ks = SD at *
      generalize arcD a = AD at *
      simp -implicitDefEqProofs [trnL, hb, getB, B.toD, lift, O.toD, stillM]) (by omega)
    rw [this]
    unfold il
    rw [List.map_map]
    rfl
  have lenA : biD .len A = some (dat (.int (as.length : Int))) := by rw [eA]; simp [biD]
  have hmul := mulT (m := as.length) (by omega)
  have t0 : ∀ e : Env', ev (run tab (k + 6)) (.tup (.cons (.cst (.int 0)) .nil)) e = some (dat (.tuple [.int 0]), e) := fun e => ev_tup_of (ds := [.int 0]) (by simp -implicitDefEqProofs [lift, O.toD, B.toD]) (by simp)
  have t01 : ∀ e : Env', ev (run tab (k + 6)) (.tup (.cons (.cst (.int 0)) (.cons (.cst (.int 1)) .nil))) e = some (dat (qi 0), e) := fun e => ev_tup_of (ds := [.int 0, .int 1]) (by simp -implicitDefEqProofs [lift, O.toD, B.toD]) (by simp)
  unfold linV at jl
  have fB : (mem ks s && (!mem ks t && decide (crossL as ks < K))) = true → mem ks s = true ∧ mem ks t = false := fun h => by
    cases h1 : mem ks s <;> cases h2 : mem ks t <;> simp [h1, h2] at h ⊢
  generalize (mem ks s && (!mem ks t && decide (crossL as ks < K))) = cut at *
  generalize decide (inL as (outS n ks) < needL (needs n s t K) (outS n ks)) = crowd at *
  generalize mem ks s = b5 at *
  generalize mem ks t = b6 at *
  generalize sideD (outS n ks) = OD at *
  generalize sideD ks = SD at *
  generalize PyData.tuple ((xsOf n (outS n ks)).map qi) = XQ at *
  generalize PyData.tuple (il (as.map fun a => a.2.2)) = CS at *
  generalize PyData.tuple (il (List.replicate as.length 0)) = ZS at *
  generalize qi 0 = q0 at *
  clear eN eA eND eBD eTK eRW
  have tF : ∀ x18 x19 x20 x21, ev (run tab (k + 6)) (.tup (.cons (.cst (.str "flow")) (.cons (.var 2) (.cons (.var 5) (.cons (.var 6) (.cons (.var 7) .nil)))))) [S0, P0, some (dat N), some (dat (.int (n : Int))), some (dat A), some (dat (.int (s : Int))), some (dat (.int (t : Int))), some (dat (.int K)), some (dat ND), none, some (dat BD), none, none, none, some (dat TK), some (dat RW), some (dat SD), some (dat OD), x18, x19, x20, x21, none, none, none, none, none, none, none] = some (dat (.tuple [.str "flow", N, .int (s : Int), .int (t : Int), .int K]), [S0, P0, some (dat N), some (dat (.int (n : Int))), some (dat A), some (dat (.int (s : Int))), some (dat (.int (t : Int))), some (dat (.int K)), some (dat ND), none, some (dat BD), none, none, none, some (dat TK), some (dat RW), some (dat SD), some (dat OD), x18, x19, x20, x21, none, none, none, none, none, none, none]) := fun x18 x19 x20 x21 => ev_tup_of (by simp -implicitDefEqProofs [getB, B.toD, lift, O.toD, stillM]) (by simp)
  have tC : ∀ x18 x19 x20 x21, ev (run tab (k + 6)) (.tup (.cons (.cst (.str "cut")) (.cons (.var 16) .nil))) [S0, P0, some (dat N), some (dat (.int (n : Int))), some (dat A), some (dat (.int (s : Int))), some (dat (.int (t : Int))), some (dat (.int K)), some (dat ND), none, some (dat BD), none, none, none, some (dat TK), some (dat RW), some (dat SD), some (dat OD), x18, x19, x20, x21, none, none, none, none, none, none, none] = some (dat (.tuple [.str "cut", SD]), [S0, P0, some (dat N), some (dat (.int (n : Int))), some (dat A), some (dat (.int (s : Int))), some (dat (.int (t : Int))), some (dat (.int K)), some (dat ND), none, some (dat BD), none, none, none, some (dat TK), some (dat RW), some (dat SD), some (dat OD), x18, x19, x20, x21, none, none, none, none, none, none, none]) := fun x18 x19 x20 x21 => ev_tup_of (by simp -implicitDefEqProofs [getB, B.toD, lift, O.toD, stillM]) (by simp)
  have tN : ∀ x18 x19 x20 x21, ev (run tab (k + 6)) (.tup (.cons (.cst (.str "need")) (.cons (.var 10) (.cons (.var 8) .nil)))) [S0, P0, some (dat N), some (dat (.int (n : Int))), some (dat A), some (dat (.int (s : Int))), some (dat (.int (t : Int))), some (dat (.int K)), some (dat ND), none, some (dat BD), none, none, none, some (dat TK), some (dat RW), some (dat SD), some (dat OD), x18, x19, x20, x21, none, none, none, none, none, none, none] = some (dat (.tuple [.str "need", BD, ND]), [S0, P0, some (dat N), some (dat (.int (n : Int))), some (dat A), some (dat (.int (s : Int))), some (dat (.int (t : Int))), some (dat (.int K)), some (dat ND), none, some (dat BD), none, none, none, some (dat TK), some (dat RW), some (dat SD), some (dat OD), x18, x19, x20, x21, none, none, none, none, none, none, none]) := fun x18 x19 x20 x21 => ev_tup_of (by simp -implicitDefEqProofs [getB, B.toD, lift, O.toD, stillM]) (by simp)
  have tW : ∀ x18 x19 x20 x21, ev (run tab (k + 6)) (.tup (.cons (.cst (.str "crowd")) (.cons (.var 17) .nil))) [S0, P0, some (dat N), some (dat (.int (n : Int))), some (dat A), some (dat (.int (s : Int))), some (dat (.int (t : Int))), some (dat (.int K)), some (dat ND), none, some (dat BD), none, none, none, some (dat TK), some (dat RW), some (dat SD), some (dat OD), x18, x19, x20, x21, none, none, none, none, none, none, none] = some (dat (.tuple [.str "crowd", OD]), [S0, P0, some (dat N), some (dat (.int (n : Int))), some (dat A), some (dat (.int (s : Int))), some (dat (.int (t : Int))), some (dat (.int K)), some (dat ND), none, some (dat BD), none, none, none, some (dat TK), some (dat RW), some (dat SD), some (dat OD), x18, x19, x20, x21, none, none, none, none, none, none, none]) := fun x18 x19 x20 x21 => ev_tup_of (by simp -implicitDefEqProofs [getB, B.toD, lift, O.toD, stillM]) (by simp)
  have tV : ∀ x18 x19 x20, ev (run tab (k + 6)) (.tup (.cons (.cst (.str "weights")) (.cons (.var 21) (.cons (.tup (.cons (.cst (.int 0)) (.cons (.cst (.int 1)) .nil))) .nil)))) [S0, P0, some (dat N), some (dat (.int (n : Int))), some (dat A), some (dat (.int (s : Int))), some (dat (.int (t : Int))), some (dat (.int K)), some (dat ND), none, some (dat BD), none, none, none, some (dat TK), some (dat RW), some (dat SD), some (dat OD), x18, x19, x20, some (dat XQ), none, none, none, none, none, none, none] = some (dat (.tuple [.str "weights", XQ, q0]), [S0, P0, some (dat N), some (dat (.int (n : Int))), some (dat A), some (dat (.int (s : Int))), some (dat (.int (t : Int))), some (dat (.int K)), some (dat ND), none, some (dat BD), none, none, none, some (dat TK), some (dat RW), some (dat SD), some (dat OD), x18, x19, x20, some (dat XQ), none, none, none, none, none, none, none]) := fun x18 x19 x20 => ev_tup_of (by simp -implicitDefEqProofs [-ev_tup, getB, B.toD, lift, O.toD, stillM, t01]) (by simp)
  have tL : ∀ x18 x19 x20 x21, ev (run tab (k + 6)) (.tup (.cons (.cst (.str "linear")) (.cons (.var 15) (.cons (.var 8) (.cons (.bin .mul (.tup (.cons (.cst (.int 0)) .nil)) (.bi .len (.bor 4))) (.cons (.bi .tuple (.lc [11, 12, 13] (.cons (.nm 11) (.cons (.nm 12) (.t1 (.nm 13)))) (.dat (.bor 4)) .nil (.var 13))) (.cons (.bin .mul (.tup (.cons (.cst (.int 0)) .nil)) (.bi .len (.bor 4))) (.cons (.cst .none) .nil)))))))) [S0, P0, some (dat N), some (dat (.int (n : Int))), some (dat A), some (dat (.int (s : Int))), some (dat (.int (t : Int))), some (dat (.int K)), some (dat ND), none, some (dat BD), none, none, none, some (dat TK), some (dat RW), some (dat SD), some (dat OD), x18, x19, x20, x21, none, none, none, none, none, none, none] = some (dat (.tuple [.str "linear", RW, ND, ZS, CS, ZS, .none]), [S0, P0, some (dat N), some (dat (.int (n : Int))), some (dat A), some (dat (.int (s : Int))), some (dat (.int (t : Int))), some (dat (.int K)), some (dat ND), none, some (dat BD), none, none, none, some (dat TK), some (dat RW), some (dat SD), some (dat OD), x18, x19, x20, x21, none, none, none, none, none, none, none]) := fun x18 x19 x20 x21 => ev_tup_of (by
    have h := h20 x18 x19 x20 x21
    generalize M.bi .tuple (.lc [11, 12, 13] (.cons (.nm 11) (.cons (.nm 12) (.t1 (.nm 13)))) (.dat (.bor 4)) .nil (.var 13)) = mm at *
    simp -implicitDefEqProofs [-ev_tup, getB, B.toD, lift, O.toD, now, stillM, t0, lenA, hmul, h]) (by simp)
  refine Go.step (e' := [S0, P0, some (dat N), some (dat (.int (n : Int))), some (dat A), some (dat (.int (s : Int))), some (dat (.int (t : Int))), some (dat (.int K)), some (dat ND), none, some (dat BD), none, none, none, some (dat TK), some (dat RW), some (dat SD), some (dat OD), x18, x19, x20, x21, none, none, none, none, none, none, none]) ?_ (Go.step (e' := [S0, P0, some (dat N), some (dat (.int (n : Int))), some (dat A), some (dat (.int (s : Int))), some (dat (.int (t : Int))), some (dat (.int K)), some (dat ND), none, some (dat BD), none, none, none, some (dat TK), some (dat RW), some (dat SD), some (dat OD), some (dat (.bool cut)), x19, x20, x21, none, none, none, none, none, none, none]) ?_ (Go.step (e' := [S0, P0, some (dat N), some (dat (.int (n : Int))), some (dat A), some (dat (.int (s : Int))), some (dat (.int (t : Int))), some (dat (.int K)), some (dat ND), none, some (dat BD), none, none, none, some (dat TK), some (dat RW), some (dat SD), some (dat OD), some (dat (.bool cut)), some (dat (.bool crowd)), x20, x21, none, none, none, none, none, none, none]) ?_ (Go.ifeF (e' := [S0, P0, some (dat N), some (dat (.int (n : Int))), some (dat A), some (dat (.int (s : Int))), some (dat (.int (t : Int))), some (dat (.int K)), some (dat ND), none, some (dat BD), none, none, none, some (dat TK), some (dat RW), some (dat SD), some (dat OD), some (dat (.bool cut)), some (dat (.bool crowd)), x20, x21, none, none, none, none, none, none, none]) ?_ (Go.nil ?_))))
  · rw [evS_set, h17]
    rfl
  · have h1 := tF x18 x19 x20 x21
    have h2 := tC x18 x19 x20 x21
    simp -implicitDefEqProofs [-ev_tup, lift, O.toD, B.toD, evas_of, putBack, putO, h1, h2, jf]
  · have h1 := tN (some (dat (.bool cut))) x19 x20 x21
    have h2 := tW (some (dat (.bool cut))) x19 x20 x21
    simp -implicitDefEqProofs [-ev_tup, lift, O.toD, B.toD, evas_of, putBack, putO, h1, h2, jn]
  · have h2 := tW (some (dat (.bool cut))) (some (dat (.bool crowd))) x20 x21
    have hc : (b5 = true ∧ b6 = false ∧ cut ≠ crowd) → False := fun ⟨p, q, r⟩ => r (fA p q)
    have hd : cut = true → crowd = true := fun p => by
      obtain ⟨p1, p2⟩ := fB p
      rw [← fA p1 p2]
      exact p
    cases b5 <;> cases b6 <;> cases hcut : cut <;> cases hcr : crowd <;> subst hcut <;> subst hcr <;> first | exact absurd (hd rfl) (by decide) | exact (hc ⟨rfl, rfl, by decide⟩).elim | simp -implicitDefEqProofs [-ev_tup, tst, getB, B.toD, lift, O.toD, boolD, now, stillM, evas_of, putBack, m5, m6, ne_bool, h2, jt, ls]
  · by_cases h0 : as.length = 0
    · have hz : cmpD .gt (.int (as.length : Int)) (.int 0) = some false := by simp [cmpD, h0]
      refine Go.ifeF (e' := [S0, P0, some (dat N), some (dat (.int (n : Int))), some (dat A), some (dat (.int (s : Int))), some (dat (.int (t : Int))), some (dat (.int K)), some (dat ND), none, some (dat BD), none, none, none, some (dat TK), some (dat RW), some (dat SD), some (dat OD), some (dat (.bool cut)), some (dat (.bool crowd)), x20, x21, none, none, none, none, none, none, none]) ?_ (Go.nil (Go.nil ⟨rfl, _, _, _, _, _, rfl⟩))
      generalize (as.length : Int) = al at *
      simp -implicitDefEqProofs [tst, getB, B.toD, lift, O.toD, boolD, now, lenA, hz]
    · have hz : cmpD .gt (.int (as.length : Int)) (.int 0) = some true := by simp [cmpD]; omega
      refine Go.ifeT (e' := [S0, P0, some (dat N), some (dat (.int (n : Int))), some (dat A), some (dat (.int (s : Int))), some (dat (.int (t : Int))), some (dat (.int K)), some (dat ND), none, some (dat BD), none, none, none, some (dat TK), some (dat RW), some (dat SD), some (dat OD), some (dat (.bool cut)), some (dat (.bool crowd)), x20, x21, none, none, none, none, none, none, none]) ?_ (Go.step (e' := [S0, P0, some (dat N), some (dat (.int (n : Int))), some (dat A), some (dat (.int (s : Int))), some (dat (.int (t : Int))), some (dat (.int K)), some (dat ND), none, some (dat BD), none, none, none, some (dat TK), some (dat RW), some (dat SD), some (dat OD), some (dat (.bool cut)), some (dat (.bool crowd)), some (dat (.tuple [.str "linear", RW, ND, ZS, CS, ZS, .none])), x21, none, none, none, none, none, none, none]) ?_ (Go.step (e' := [S0, P0, some (dat N), some (dat (.int (n : Int))), some (dat A), some (dat (.int (s : Int))), some (dat (.int (t : Int))), some (dat (.int K)), some (dat ND), none, some (dat BD), none, none, none, some (dat TK), some (dat RW), some (dat SD), some (dat OD), some (dat (.bool cut)), some (dat (.bool crowd)), some (dat (.tuple [.str "linear", RW, ND, ZS, CS, ZS, .none])), some (dat XQ), none, none, none, none, none, none, none]) ?_ (Go.ifeF (e' := [S0, P0, some (dat N), some (dat (.int (n : Int))), some (dat A), some (dat (.int (s : Int))), some (dat (.int (t : Int))), some (dat (.int K)), some (dat ND), none, some (dat BD), none, none, none, some (dat TK), some (dat RW), some (dat SD), some (dat OD), some (dat (.bool cut)), some (dat (.bool crowd)), some (dat (.tuple [.str "linear", RW, ND, ZS, CS, ZS, .none])), some (dat XQ), none, none, none, none, none, none, none]) ?_ (Go.nil (Go.nil (Go.nil ⟨rfl, _, _, _, _, _, rfl⟩))))))
      · generalize (as.length : Int) = al at *
        simp -implicitDefEqProofs [tst, getB, B.toD, lift, O.toD, boolD, now, lenA, hz]
      · rw [evS_set, tL]
        rfl
      · rw [evS_set, h21]
        rfl
      · have h1 := tV (some (dat (.bool cut))) (some (dat (.bool crowd))) (some (dat (.tuple [.str "linear", RW, ND, ZS, CS, ZS, .none])))
        generalize PyData.tuple [.str "linear", RW, ND, ZS, CS, ZS, .none] = LL at *
        simp -implicitDefEqProofs [-ev_tup, tst, getB, B.toD, lift, O.toD, boolD, now, stillM, evas_of, putBack, h1, jl, ne_bool]
end K57P
set_option linter.all false
set_option maxRecDepth 100000
set_option maxHeartbeats 2000000
namespace K57P
open PySem MP
theorem part (k n : Nat) (as os : List Arc) (ks : List Nat) (S0 P0 z2 z4 z5 z6 z7 z8 z10 z14 z15 z17 z18 z19 z20 z21 x24 x25 x28 : Option O) (T OS : D) (hn : n ≤ 900) (hal : as.length ≤ 1000) (hol : os.length ≤ 1000) (ha : ∀ a ∈ as, a.1 < n ∧ a.2.1 < n) (ho : ∀ o ∈ os, o.1 < n ∧ o.2.1 < n ∧ 1 ≤ o.2.2)
    (eT : T = .tuple (as.map arcD)) (eOS : OS = .tuple (os.map arcD)) :
    Go (run tab (k + 6)) b_part [S0, P0, z2, some (dat (.int (n : Int))), z4, z5, z6, z7, z8, none, z10, none, none, none, z14, z15, some (dat (sideD ks)), z17, z18, z19, z20, z21, some (dat T), some (dat OS), x24, x25, none, none, x28] fun fl e2 => fl = .nx ∧ ∃ y24 y25 y28, e2 = [S0, P0, z2, some (dat (.int (n : Int))), z4, z5, z6, z7, z8, none, z10, none, none, none, z14, z15, some (dat (sideD ks)), z17, z18, z19, z20, z21, some (dat T), some (dat OS), y24, y25, none, none, y28] := by
  have m : ∀ v : Nat, cmpD .inn (.int (v : Int)) (sideD ks) = some (mem ks v) := fun v => in_nl
  have jo : crossS as (lenOf ks as) < wantS ks os → run tab (k + 6) 26 [dat (.tuple [.str "orders", .int (n : Int), T, OS]), dat (.tuple [.str "lengths", .tuple ((lenOf ks as).map qi)])] = some ([none, none], dat (.bool true)) := fun hw => by
    rw [eT, eOS]
    exact judge (k + 5) "orders" "Orders" 25 _ _ _ _ rfl (orders_judge k n ks as os (lenOf ks as) (by unfold lenOf; simp) hal (lens_tie ha) lens_bd hn ho hw)
  rw [cross_lens] at jo
  have h24 : ∀ x24 x25 x28, ev (run tab (k + 6)) (.bi .tuple (.lc [11, 12, 13] (.cons (.nm 11) (.cons (.nm 12) (.t1 (.nm 13)))) (.dat (.bor 22)) .nil (.ife (.cmp .ne (.cmp .inn (.bor 11) (.bor 16)) (.cmp .inn (.bor 12) (.bor 16))) (.tup (.cons (.cst (.int 1)) (.cons (.cst (.int 1)) .nil))) (.tup (.cons (.cst (.int 0)) (.cons (.cst (.int 1)) .nil)))))) [S0, P0, z2, some (dat (.int (n : Int))), z4, z5, z6, z7, z8, none, z10, none, none, none, z14, z15, some (dat (sideD ks)), z17, z18, z19, z20, z21, some (dat T), some (dat OS), x24, x25, none, none, x28] = some (dat (.tuple ((lenOf ks as).map qi)), [S0, P0, z2, some (dat (.int (n : Int))), z4, z5, z6, z7, z8, none, z10, none, none, none, z14, z15, some (dat (sideD ks)), z17, z18, z19, z20, z21, some (dat T), some (dat OS), x24, x25, none, none, x28]) := fun x24 x25 x28 => by
    have := lc_tup (C := run tab (k + 6)) (own := [11, 12, 13]) (tg := .cons (.nm 11) (.cons (.nm 12) (.t1 (.nm 13)))) (it := .dat (.bor 22)) (cs := .nil) (elt := .ife (.cmp .ne (.cmp .inn (.bor 11) (.bor 16)) (.cmp .inn (.bor 12) (.bor 16))) (.tup (.cons (.cst (.int 1)) (.cons (.cst (.int 1)) .nil))) (.tup (.cons (.cst (.int 0)) (.cons (.cst (.int 1)) .nil)))) (e := [S0, P0, z2, some (dat (.int (n : Int))), z4, z5, z6, z7, z8, none, z10, none, none, none, z14, z15, some (dat (sideD ks)), z17, z18, z19, z20, z21, some (dat T), some (dat OS), x24, x25, none, none, x28]) (e1 := [S0, P0, z2, some (dat (.int (n : Int))), z4, z5, z6, z7, z8, none, z10, none, none, none, z14, z15, some (dat (sideD ks)), z17, z18, z19, z20, z21, some (dat T), some (dat OS), x24, x25, none, none, x28]) (w := [S0, P0, z2, some (dat (.int (n : Int))), z4, z5, z6, z7, z8, none, z10, none, none, none, z14, z15, some (dat (sideD ks)), z17, z18, z19, z20, z21, some (dat T), some (dat OS), x24, x25, none, none, x28]) as arcD (fun _ => true) (fun a => qi (if sepB ks a = true then 1 else 0)) (by rw [eT]; simp -implicitDefEqProofs [getB, B.toD, seqD, stillM]) rfl (fun a ha' => by
      have hb : MP.bind (.cons (.nm 11) (.cons (.nm 12) (.t1 (.nm 13)))) (arcD a) [S0, P0, z2, some (dat (.int (n : Int))), z4, z5, z6, z7, z8, none, z10, none, none, none, z14, z15, some (dat (sideD ks)), z17, z18, z19, z20, z21, some (dat T), some (dat OS), x24, x25, none, none, x28] = some [S0, P0, z2, some (dat (.int (n : Int))), z4, z5, z6, z7, z8, none, z10, some (dat (.int (a.1 : Int))), some (dat (.int (a.2.1 : Int))), some (dat (.int a.2.2)), z14, z15, some (dat (sideD ks)), z17, z18, z19, z20, z21, some (dat T), some (dat OS), x24, x25, none, none, x28] := by simp [MP.bind, arcD, putO]
      refine ⟨[S0, P0, z2, some (dat (.int (n : Int))), z4, z5, z6, z7, z8, none, z10, some (dat (.int (a.1 : Int))), some (dat (.int (a.2.1 : Int))), some (dat (.int a.2.2)), z14, z15, some (dat (sideD ks)), z17, z18, z19, z20, z21, some (dat T), some (dat OS), x24, x25, none, none, x28], ?_, rfl⟩
      have m1 := m a.1
      have m2 := m a.2.1
      have t1 : ∀ e : Env', ev (run tab (k + 6)) (.tup (.cons (.cst (.int 1)) (.cons (.cst (.int 1)) .nil))) e = some (dat (qi 1), e) := fun e => ev_tup_of (ds := [.int 1, .int 1]) (by simp -implicitDefEqProofs [lift, O.toD, B.toD]) (by simp)
      have t0 : ∀ e : Env', ev (run tab (k + 6)) (.tup (.cons (.cst (.int 0)) (.cons (.cst (.int 1)) .nil))) e = some (dat (qi 0), e) := fun e => ev_tup_of (ds := [.int 0, .int 1]) (by simp -implicitDefEqProofs [lift, O.toD, B.toD]) (by simp)
      unfold sepB
      generalize sideD ks = SD at *
      generalize arcD a = AD at *
      generalize mem ks a.1 = b1 at *
      generalize mem ks a.2.1 = b2 at *
      have hif : qi (if (b1 != b2) = true then 1 else 0) = if (b1 != b2) = true then qi 1 else qi 0 := by cases b1 <;> cases b2 <;> rfl
      rw [hif]
      generalize qi 1 = q1 at *
      generalize qi 0 = q0 at *
      cases b1 <;> cases b2 <;> simp -implicitDefEqProofs [-ev_tup, trnL, hb, getB, B.toD, lift, O.toD, boolD, now, stillM, m1, m2, ne_bool, t1, t0]) hal
    rw [this, List.filter_eq_self.mpr fun _ _ => rfl]
    unfold lenOf
    rw [List.map_map]
    rfl
  have h25 : ∀ x24 x25 x28, ev (run tab (k + 6)) (.bi .sum (.lc [26, 9, 27] (.cons (.nm 26) (.cons (.nm 9) (.t1 (.nm 27)))) (.dat (.bor 23)) (.cons (.cmp .ne (.cmp .inn (.bor 26) (.bor 16)) (.cmp .inn (.bor 9) (.bor 16))) .nil) (.var 27))) [S0, P0, z2, some (dat (.int (n : Int))), z4, z5, z6, z7, z8, none, z10, none, none, none, z14, z15, some (dat (sideD ks)), z17, z18, z19, z20, z21, some (dat T), some (dat OS), x24, x25, none, none, x28] = some (dat (.int (wantS ks os)), [S0, P0, z2, some (dat (.int (n : Int))), z4, z5, z6, z7, z8, none, z10, none, none, none, z14, z15, some (dat (sideD ks)), z17, z18, z19, z20, z21, some (dat T), some (dat OS), x24, x25, none, none, x28]) := fun x24 x25 x28 =>
    lc_sum (C := run tab (k + 6)) (e1 := [S0, P0, z2, some (dat (.int (n : Int))), z4, z5, z6, z7, z8, none, z10, none, none, none, z14, z15, some (dat (sideD ks)), z17, z18, z19, z20, z21, some (dat T), some (dat OS), x24, x25, none, none, x28]) (w := [S0, P0, z2, some (dat (.int (n : Int))), z4, z5, z6, z7, z8, none, z10, none, none, none, z14, z15, some (dat (sideD ks)), z17, z18, z19, z20, z21, some (dat T), some (dat OS), x24, x25, none, none, x28]) os arcD (sepB ks) (fun o => o.2.2) (by rw [eOS]; simp -implicitDefEqProofs [getB, B.toD, seqD, stillM]) rfl (fun a ha' => by
      have hb : MP.bind (.cons (.nm 26) (.cons (.nm 9) (.t1 (.nm 27)))) (arcD a) [S0, P0, z2, some (dat (.int (n : Int))), z4, z5, z6, z7, z8, none, z10, none, none, none, z14, z15, some (dat (sideD ks)), z17, z18, z19, z20, z21, some (dat T), some (dat OS), x24, x25, none, none, x28] = some [S0, P0, z2, some (dat (.int (n : Int))), z4, z5, z6, z7, z8, some (dat (.int (a.2.1 : Int))), z10, none, none, none, z14, z15, some (dat (sideD ks)), z17, z18, z19, z20, z21, some (dat T), some (dat OS), x24, x25, some (dat (.int (a.1 : Int))), some (dat (.int a.2.2)), x28] := by simp [MP.bind, arcD, putO]
      refine ⟨[S0, P0, z2, some (dat (.int (n : Int))), z4, z5, z6, z7, z8, some (dat (.int (a.2.1 : Int))), z10, none, none, none, z14, z15, some (dat (sideD ks)), z17, z18, z19, z20, z21, some (dat T), some (dat OS), x24, x25, some (dat (.int (a.1 : Int))), some (dat (.int a.2.2)), x28], ?_, rfl⟩
      have m1 := m a.1
      have m2 := m a.2.1
      unfold sepB
      generalize sideD ks = SD at *
      generalize arcD a = AD at *
      generalize mem ks a.1 = b1 at *
      generalize mem ks a.2.1 = b2 at *
      cases b1 <;> cases b2 <;> simp -implicitDefEqProofs [trnL, hb, getB, B.toD, lift, O.toD, boolD, now, stillM, m1, m2, ne_bool]) hol
  have h28 : ∀ x24 x25 x28, ev (run tab (k + 6)) (.bi .sum (.lc [11, 12, 13] (.cons (.nm 11) (.cons (.nm 12) (.t1 (.nm 13)))) (.dat (.bor 22)) (.cons (.cmp .ne (.cmp .inn (.bor 11) (.bor 16)) (.cmp .inn (.bor 12) (.bor 16))) .nil) (.var 13))) [S0, P0, z2, some (dat (.int (n : Int))), z4, z5, z6, z7, z8, none, z10, none, none, none, z14, z15, some (dat (sideD ks)), z17, z18, z19, z20, z21, some (dat T), some (dat OS), x24, x25, none, none, x28] = some (dat (.int ((as.filter (sepB ks)).map fun a => a.2.2).sum), [S0, P0, z2, some (dat (.int (n : Int))), z4, z5, z6, z7, z8, none, z10, none, none, none, z14, z15, some (dat (sideD ks)), z17, z18, z19, z20, z21, some (dat T), some (dat OS), x24, x25, none, none, x28]) := fun x24 x25 x28 =>
    lc_sum (C := run tab (k + 6)) (e1 := [S0, P0, z2, some (dat (.int (n : Int))), z4, z5, z6, z7, z8, none, z10, none, none, none, z14, z15, some (dat (sideD ks)), z17, z18, z19, z20, z21, some (dat T), some (dat OS), x24, x25, none, none, x28]) (w := [S0, P0, z2, some (dat (.int (n : Int))), z4, z5, z6, z7, z8, none, z10, none, none, none, z14, z15, some (dat (sideD ks)), z17, z18, z19, z20, z21, some (dat T), some (dat OS), x24, x25, none, none, x28]) as arcD (sepB ks) (fun o => o.2.2) (by rw [eT]; simp -implicitDefEqProofs [getB, B.toD, seqD, stillM]) rfl (fun a ha' => by
      have hb : MP.bind (.cons (.nm 11) (.cons (.nm 12) (.t1 (.nm 13)))) (arcD a) [S0, P0, z2, some (dat (.int (n : Int))), z4, z5, z6, z7, z8, none, z10, none, none, none, z14, z15, some (dat (sideD ks)), z17, z18, z19, z20, z21, some (dat T), some (dat OS), x24, x25, none, none, x28] = some [S0, P0, z2, some (dat (.int (n : Int))), z4, z5, z6, z7, z8, none, z10, some (dat (.int (a.1 : Int))), some (dat (.int (a.2.1 : Int))), some (dat (.int a.2.2)), z14, z15, some (dat (sideD ks)), z17, z18, z19, z20, z21, some (dat T), some (dat OS), x24, x25, none, none, x28] := by simp [MP.bind, arcD, putO]
      refine ⟨[S0, P0, z2, some (dat (.int (n : Int))), z4, z5, z6, z7, z8, none, z10, some (dat (.int (a.1 : Int))), some (dat (.int (a.2.1 : Int))), some (dat (.int a.2.2)), z14, z15, some (dat (sideD ks)), z17, z18, z19, z20, z21, some (dat T), some (dat OS), x24, x25, none, none, x28], ?_, rfl⟩
      have m1 := m a.1
      have m2 := m a.2.1
      unfold sepB
      generalize sideD ks = SD at *
      generalize arcD a = AD at *
      generalize mem ks a.1 = b1 at *
      generalize mem ks a.2.1 = b2 at *
      cases b1 <;> cases b2 <;> simp -implicitDefEqProofs [trnL, hb, getB, B.toD, lift, O.toD, boolD, now, stillM, m1, m2, ne_bool]) hal
  generalize sideD ks = SD at *
  generalize PyData.tuple ((lenOf ks as).map qi) = LL at *
  generalize wantS ks os = W at *
  generalize ((as.filter (sepB ks)).map fun a => a.2.2).sum = X at *
  clear eT eOS
  have tO : ∀ x25 x28, ev (run tab (k + 6)) (.tup (.cons (.cst (.str "orders")) (.cons (.var 3) (.cons (.var 22) (.cons (.var 23) .nil))))) [S0, P0, z2, some (dat (.int (n : Int))), z4, z5, z6, z7, z8, none, z10, none, none, none, z14, z15, some (dat SD), z17, z18, z19, z20, z21, some (dat T), some (dat OS), some (dat LL), x25, none, none, x28] = some (dat (.tuple [.str "orders", .int (n : Int), T, OS]), [S0, P0, z2, some (dat (.int (n : Int))), z4, z5, z6, z7, z8, none, z10, none, none, none, z14, z15, some (dat SD), z17, z18, z19, z20, z21, some (dat T), some (dat OS), some (dat LL), x25, none, none, x28]) := fun x25 x28 => ev_tup_of (by simp -implicitDefEqProofs [getB, B.toD, lift, O.toD, stillM]) (by simp)
  have tL : ∀ x25 x28, ev (run tab (k + 6)) (.tup (.cons (.cst (.str "lengths")) (.cons (.var 24) .nil))) [S0, P0, z2, some (dat (.int (n : Int))), z4, z5, z6, z7, z8, none, z10, none, none, none, z14, z15, some (dat SD), z17, z18, z19, z20, z21, some (dat T), some (dat OS), some (dat LL), x25, none, none, x28] = some (dat (.tuple [.str "lengths", LL]), [S0, P0, z2, some (dat (.int (n : Int))), z4, z5, z6, z7, z8, none, z10, none, none, none, z14, z15, some (dat SD), z17, z18, z19, z20, z21, some (dat T), some (dat OS), some (dat LL), x25, none, none, x28]) := fun x25 x28 => ev_tup_of (by simp -implicitDefEqProofs [getB, B.toD, lift, O.toD, stillM]) (by simp)
  refine Go.step (e' := [S0, P0, z2, some (dat (.int (n : Int))), z4, z5, z6, z7, z8, none, z10, none, none, none, z14, z15, some (dat SD), z17, z18, z19, z20, z21, some (dat T), some (dat OS), some (dat LL), x25, none, none, x28]) ?_ (Go.step (e' := [S0, P0, z2, some (dat (.int (n : Int))), z4, z5, z6, z7, z8, none, z10, none, none, none, z14, z15, some (dat SD), z17, z18, z19, z20, z21, some (dat T), some (dat OS), some (dat LL), some (dat (.int W)), none, none, x28]) ?_ (Go.step (e' := [S0, P0, z2, some (dat (.int (n : Int))), z4, z5, z6, z7, z8, none, z10, none, none, none, z14, z15, some (dat SD), z17, z18, z19, z20, z21, some (dat T), some (dat OS), some (dat LL), some (dat (.int W)), none, none, some (dat (.int X))]) ?_ (Go.ifeF (e' := [S0, P0, z2, some (dat (.int (n : Int))), z4, z5, z6, z7, z8, none, z10, none, none, none, z14, z15, some (dat SD), z17, z18, z19, z20, z21, some (dat T), some (dat OS), some (dat LL), some (dat (.int W)), none, none, some (dat (.int X))]) ?_ (Go.nil (Go.nil ⟨rfl, _, _, _, rfl⟩)))))
  · rw [evS_set, h24]
    rfl
  · rw [evS_set, h25]
    rfl
  · rw [evS_set, h28]
    rfl
  · have h1 := tO (some (dat (.int W))) (some (dat (.int X)))
    have h2 := tL (some (dat (.int W))) (some (dat (.int X)))
    by_cases hw : X < W
    · have hj := jo hw
      simp -implicitDefEqProofs [-ev_tup, tst, getB, B.toD, lift, O.toD, boolD, now, stillM, evas_of, putBack, cmpD, hw, h1, h2, hj]
    · simp -implicitDefEqProofs [-ev_tup, tst, getB, B.toD, lift, O.toD, boolD, now, stillM, cmpD, hw]
end K57P
set_option linter.all false
set_option maxRecDepth 100000
set_option maxHeartbeats 4000000
namespace K57P
open PySem MP
theorem eq_nat {i j : Nat} : cmpD .eq (.int (i : Int)) (.int (j : Int)) = some (decide (i = j)) := by
  rw [eq_int]
  congr 1
  rw [Bool.eq_iff_iff, decide_eq_true_eq, decide_eq_true_eq]
  omega
/-- the tuples that the law makes of the arcs -/
theorem lc_arcR (C : CallF) (S : D) (as : List Arc) (A : D) (eA : A = .tuple (as.map arcD)) (hl : as.length ≤ 1000) (x1 x2 x3 x5 x6 x7 x8 x10 x14 x15 : Option O) :
    ev C (.bi .tuple (.lc [11, 12, 13] (.cons (.nm 11) (.cons (.nm 12) (.t1 (.nm 13)))) (.dat (.bor 4)) .nil (.tup (.cons (.var 11) (.cons (.var 12) (.cons (.cst (.int 0)) (.cons (.var 13) .nil))))))) [some (dat S), x1, x2, x3, some (dat A), x5, x6, x7, x8, none, x10, none, none, none, x14, x15, none, none, none, none, none, none, none, none, none, none, none, none, none] = some (dat (.tuple (as.map (arcR []))), [some (dat S), x1, x2, x3, some (dat A), x5, x6, x7, x8, none, x10, none, none, none, x14, x15, none, none, none, none, none, none, none, none, none, none, none, none, none]) ∧
    ev C (.bi .tuple (.lc [11, 12, 13] (.cons (.nm 11) (.cons (.nm 12) (.t1 (.nm 13)))) (.dat (.bor 4)) .nil (.tup (.cons (.var 11) (.cons (.var 12) (.cons (.cst (.int 0)) (.cons (.var 13) (.cons (.cst (.int 0)) .nil)))))))) [some (dat S), x1, x2, x3, some (dat A), x5, x6, x7, x8, none, x10, none, none, none, x14, x15, none, none, none, none, none, none, none, none, none, none, none, none, none] = some (dat (.tuple (as.map (arcR [.int 0]))), [some (dat S), x1, x2, x3, some (dat A), x5, x6, x7, x8, none, x10, none, none, none, x14, x15, none, none, none, none, none, none, none, none, none, none, none, none, none]) := by
  have hi : evi C (.dat (.bor 4)) [some (dat S), x1, x2, x3, some (dat A), x5, x6, x7, x8, none, x10, none, none, none, x14, x15, none, none, none, none, none, none, none, none, none, none, none, none, none] = some (as.map arcD, [some (dat S), x1, x2, x3, some (dat A), x5, x6, x7, x8, none, x10, none, none, none, x14, x15, none, none, none, none, none, none, none, none, none, none, none, none, none]) := by rw [eA]; simp -implicitDefEqProofs [getB, B.toD, seqD, stillM]
  have hb : ∀ a : Arc, MP.bind (.cons (.nm 11) (.cons (.nm 12) (.t1 (.nm 13)))) (arcD a) [some (dat S), x1, x2, x3, some (dat A), x5, x6, x7, x8, none, x10, none, none, none, x14, x15, none, none, none, none, none, none, none, none, none, none, none, none, none] = some [some (dat S), x1, x2, x3, some (dat A), x5, x6, x7, x8, none, x10, some (dat (.int (a.1 : Int))), some (dat (.int (a.2.1 : Int))), some (dat (.int a.2.2)), x14, x15, none, none, none, none, none, none, none, none, none, none, none, none, none] := fun a => by simp [MP.bind, arcD, putO]
  constructor
  · refine arcs_lc as (arcR []) hi rfl (fun a ha => ⟨[some (dat S), x1, x2, x3, some (dat A), x5, x6, x7, x8, none, x10, some (dat (.int (a.1 : Int))), some (dat (.int (a.2.1 : Int))), some (dat (.int a.2.2)), x14, x15, none, none, none, none, none, none, none, none, none, none, none, none, none], ?_, rfl⟩) hl
    have hq : ev C (.tup (.cons (.var 11) (.cons (.var 12) (.cons (.cst (.int 0)) (.cons (.var 13) .nil))))) [some (dat S), x1, x2, x3, some (dat A), x5, x6, x7, x8, none, x10, some (dat (.int (a.1 : Int))), some (dat (.int (a.2.1 : Int))), some (dat (.int a.2.2)), x14, x15, none, none, none, none, none, none, none, none, none, none, none, none, none] = some (dat (arcR [] a), [some (dat S), x1, x2, x3, some (dat A), x5, x6, x7, x8, none, x10, some (dat (.int (a.1 : Int))), some (dat (.int (a.2.1 : Int))), some (dat (.int a.2.2)), x14, x15, none, none, none, none, none, none, none, none, none, none, none, none, none]) := ev_tup_of (by simp -implicitDefEqProofs [getB, B.toD, lift, O.toD, stillM]) (by simp)
    have hb := hb a
    generalize arcR [] a = R at *
    generalize arcD a = AD at *
    simp -implicitDefEqProofs [-ev_tup, trnL, hb, lift, O.toD, B.toD, hq]
  · refine arcs_lc as (arcR [.int 0]) hi rfl (fun a ha => ⟨[some (dat S), x1, x2, x3, some (dat A), x5, x6, x7, x8, none, x10, some (dat (.int (a.1 : Int))), some (dat (.int (a.2.1 : Int))), some (dat (.int a.2.2)), x14, x15, none, none, none, none, none, none, none, none, none, none, none, none, none], ?_, rfl⟩) hl
    have hq : ev C (.tup (.cons (.var 11) (.cons (.var 12) (.cons (.cst (.int 0)) (.cons (.var 13) (.cons (.cst (.int 0)) .nil)))))) [some (dat S), x1, x2, x3, some (dat A), x5, x6, x7, x8, none, x10, some (dat (.int (a.1 : Int))), some (dat (.int (a.2.1 : Int))), some (dat (.int a.2.2)), x14, x15, none, none, none, none, none, none, none, none, none, none, none, none, none] = some (dat (arcR [.int 0] a), [some (dat S), x1, x2, x3, some (dat A), x5, x6, x7, x8, none, x10, some (dat (.int (a.1 : Int))), some (dat (.int (a.2.1 : Int))), some (dat (.int a.2.2)), x14, x15, none, none, none, none, none, none, none, none, none, none, none, none, none]) := ev_tup_of (by simp -implicitDefEqProofs [getB, B.toD, lift, O.toD, stillM]) (by simp)
    have hb := hb a
    generalize arcR [.int 0] a = R at *
    generalize arcD a = AD at *
    simp -implicitDefEqProofs [-ev_tup, trnL, hb, lift, O.toD, B.toD, hq]
theorem lc_needs (C : CallF) (S : D) (n s t : Nat) (K : Int) (hn : n ≤ 1000) (x1 x2 x4 x10 x14 x15 : Option O) :
    ev C (.bi .tuple (.lc [9] (.nm 9) (.rng (.var 3)) .nil (.ife (.cmp .eq (.bor 9) (.bor 6)) (.var 7) (.ife (.cmp .eq (.bor 9) (.bor 5)) (.bin .sub (.cst (.int 0)) (.bor 7)) (.cst (.int 0)))))) [some (dat S), x1, x2, some (dat (.int (n : Int))), x4, some (dat (.int (s : Int))), some (dat (.int (t : Int))), some (dat (.int K)), none, none, x10, none, none, none, x14, x15, none, none, none, none, none, none, none, none, none, none, none, none, none] = some (dat (.tuple (il (needs n s t K))), [some (dat S), x1, x2, some (dat (.int (n : Int))), x4, some (dat (.int (s : Int))), some (dat (.int (t : Int))), some (dat (.int K)), none, none, x10, none, none, none, x14, x15, none, none, none, none, none, none, none, none, none, none, none, none, none]) := by
  have := rng_lc (C := C) (cs := .nil) (elt := .ife (.cmp .eq (.bor 9) (.bor 6)) (.var 7) (.ife (.cmp .eq (.bor 9) (.bor 5)) (.bin .sub (.cst (.int 0)) (.bor 7)) (.cst (.int 0)))) (e := [some (dat S), x1, x2, some (dat (.int (n : Int))), x4, some (dat (.int (s : Int))), some (dat (.int (t : Int))), some (dat (.int K)), none, none, x10, none, none, none, x14, x15, none, none, none, none, none, none, none, none, none, none, none, none, none]) (w := [some (dat S), x1, x2, some (dat (.int (n : Int))), x4, some (dat (.int (s : Int))), some (dat (.int (t : Int))), some (dat (.int K)), none, none, x10, none, none, none, x14, x15, none, none, none, none, none, none, none, none, none, none, none, none, none]) n (fun _ => true) (fun v => .int (if v = t then K else if v = s then 0 - K else 0)) hn (by simp -implicitDefEqProofs [getB, B.toD, lift, O.toD, stillM]) rfl (fun v hv => ⟨[some (dat S), x1, x2, some (dat (.int (n : Int))), x4, some (dat (.int (s : Int))), some (dat (.int (t : Int))), some (dat (.int K)), none, some (dat (.int (v : Int))), x10, none, none, none, x14, x15, none, none, none, none, none, none, none, none, none, none, none, none, none], by
    have e1 := eq_nat (i := v) (j := t)
    have e2 := eq_nat (i := v) (j := s)
    by_cases h1 : v = t
    · simp -implicitDefEqProofs [trnL, MP.bind, putO, getB, B.toD, lift, O.toD, boolD, now, stillM, e1, h1, eq_nat]
    · by_cases h2 : v = s
      · rw [decide_eq_false h1] at e1
        rw [decide_eq_true h2] at e2
        rw [if_neg h1, if_pos h2]
        simp -implicitDefEqProofs [trnL, MP.bind, putO, getB, B.toD, lift, O.toD, boolD, now, stillM, e1, e2, subD]
      · rw [decide_eq_false h1] at e1
        rw [decide_eq_false h2] at e2
        rw [if_neg h1, if_neg h2]
        simp -implicitDefEqProofs [trnL, MP.bind, putO, getB, B.toD, lift, O.toD, boolD, now, stillM, e1, e2], rfl⟩)
  rw [this, List.filter_eq_self.mpr fun _ _ => rfl]
  unfold needs il
  rw [List.map_map]
  rfl
theorem lc_rows (C : CallF) (S : D) (n : Nat) (as : List Arc) (A : D) (eA : A = .tuple (as.map arcD)) (hn : n ≤ 1000) (hl : as.length ≤ 1000) (x1 x2 x5 x6 x7 x8 x10 x14 x15 : Option O) :
    ev C (.bi .tuple (.lc [9] (.nm 9) (.rng (.var 3)) .nil (.bi .tuple (.lc [11, 12, 13] (.cons (.nm 11) (.cons (.nm 12) (.t1 (.nm 13)))) (.dat (.bor 4)) .nil (.ife (.cmp .eq (.bor 12) (.bor 9)) (.cst (.int 1)) (.ife (.cmp .eq (.bor 11) (.bor 9)) (.neg (.cst (.int 1))) (.cst (.int 0)))))))) [some (dat S), x1, x2, some (dat (.int (n : Int))), some (dat A), x5, x6, x7, x8, none, x10, none, none, none, x14, x15, none, none, none, none, none, none, none, none, none, none, none, none, none] = some (dat (.tuple ((rowsOf n as).map fun r => .tuple (il r))), [some (dat S), x1, x2, some (dat (.int (n : Int))), some (dat A), x5, x6, x7, x8, none, x10, none, none, none, x14, x15, none, none, none, none, none, none, none, none, none, none, none, none, none]) := by
  have inner : ∀ v : Nat, ev C (.bi .tuple (.lc [11, 12, 13] (.cons (.nm 11) (.cons (.nm 12) (.t1 (.nm 13)))) (.dat (.bor 4)) .nil (.ife (.cmp .eq (.bor 12) (.bor 9)) (.cst (.int 1)) (.ife (.cmp .eq (.bor 11) (.bor 9)) (.neg (.cst (.int 1))) (.cst (.int 0)))))) [some (dat S), x1, x2, some (dat (.int (n : Int))), some (dat A), x5, x6, x7, x8, some (dat (.int (v : Int))), x10, none, none, none, x14, x15, none, none, none, none, none, none, none, none, none, none, none, none, none] = some (dat (.tuple (il (as.map fun a => entry a v))), [some (dat S), x1, x2, some (dat (.int (n : Int))), some (dat A), x5, x6, x7, x8, some (dat (.int (v : Int))), x10, none, none, none, x14, x15, none, none, none, none, none, none, none, none, none, none, none, none, none]) := fun v => by
    have := arcs_lc (C := C) (elt := .ife (.cmp .eq (.bor 12) (.bor 9)) (.cst (.int 1)) (.ife (.cmp .eq (.bor 11) (.bor 9)) (.neg (.cst (.int 1))) (.cst (.int 0)))) (e := [some (dat S), x1, x2, some (dat (.int (n : Int))), some (dat A), x5, x6, x7, x8, some (dat (.int (v : Int))), x10, none, none, none, x14, x15, none, none, none, none, none, none, none, none, none, none, none, none, none]) (w := [some (dat S), x1, x2, some (dat (.int (n : Int))), some (dat A), x5, x6, x7, x8, some (dat (.int (v : Int))), x10, none, none, none, x14, x15, none, none, none, none, none, none, none, none, none, none, none, none, none]) as (fun a => .int (entry a v)) (by rw [eA]; simp -implicitDefEqProofs [getB, B.toD, seqD, stillM]) rfl (fun a ha => by
      have hb : MP.bind (.cons (.nm 11) (.cons (.nm 12) (.t1 (.nm 13)))) (arcD a) [some (dat S), x1, x2, some (dat (.int (n : Int))), some (dat A), x5, x6, x7, x8, some (dat (.int (v : Int))), x10, none, none, none, x14, x15, none, none, none, none, none, none, none, none, none, none, none, none, none] = some [some (dat S), x1, x2, some (dat (.int (n : Int))), some (dat A), x5, x6, x7, x8, some (dat (.int (v : Int))), x10, some (dat (.int (a.1 : Int))), some (dat (.int (a.2.1 : Int))), some (dat (.int a.2.2)), x14, x15, none, none, none, none, none, none, none, none, none, none, none, none, none] := by simp [MP.bind, arcD, putO]
      refine ⟨[some (dat S), x1, x2, some (dat (.int (n : Int))), some (dat A), x5, x6, x7, x8, some (dat (.int (v : Int))), x10, some (dat (.int (a.1 : Int))), some (dat (.int (a.2.1 : Int))), some (dat (.int a.2.2)), x14, x15, none, none, none, none, none, none, none, none, none, none, none, none, none], ?_, rfl⟩
      have e1 := eq_nat (i := a.2.1) (j := v)
      have e2 := eq_nat (i := a.1) (j := v)
      unfold entry
      generalize arcD a = AD at *
      by_cases h1 : a.2.1 = v
      · rw [decide_eq_true h1] at e1
        rw [if_pos h1]
        simp -implicitDefEqProofs [trnL, hb, getB, B.toD, lift, O.toD, boolD, now, stillM, e1]
      · rw [decide_eq_false h1] at e1
        rw [if_neg h1]
        by_cases h2 : a.1 = v
        · rw [decide_eq_true h2] at e2
          rw [if_pos h2]
          simp -implicitDefEqProofs [trnL, hb, getB, B.toD, lift, O.toD, boolD, now, stillM, e1, e2]
        · rw [decide_eq_false h2] at e2
          rw [if_neg h2]
          simp -implicitDefEqProofs [trnL, hb, getB, B.toD, lift, O.toD, boolD, now, stillM, e1, e2]) hl
    rw [this]
    unfold il
    rw [List.map_map]
    rfl
  have := rng_lc (C := C) (cs := .nil) (elt := .bi .tuple (.lc [11, 12, 13] (.cons (.nm 11) (.cons (.nm 12) (.t1 (.nm 13)))) (.dat (.bor 4)) .nil (.ife (.cmp .eq (.bor 12) (.bor 9)) (.cst (.int 1)) (.ife (.cmp .eq (.bor 11) (.bor 9)) (.neg (.cst (.int 1))) (.cst (.int 0)))))) (e := [some (dat S), x1, x2, some (dat (.int (n : Int))), some (dat A), x5, x6, x7, x8, none, x10, none, none, none, x14, x15, none, none, none, none, none, none, none, none, none, none, none, none, none]) (w := [some (dat S), x1, x2, some (dat (.int (n : Int))), some (dat A), x5, x6, x7, x8, none, x10, none, none, none, x14, x15, none, none, none, none, none, none, none, none, none, none, none, none, none]) n (fun _ => true) (fun v => .tuple (il (as.map fun a => entry a v))) hn (by simp -implicitDefEqProofs [getB, B.toD, lift, O.toD, stillM]) rfl (fun v hv => ⟨[some (dat S), x1, x2, some (dat (.int (n : Int))), some (dat A), x5, x6, x7, x8, some (dat (.int (v : Int))), x10, none, none, none, x14, x15, none, none, none, none, none, none, none, none, none, none, none, none, none], by
    have h := inner v
    generalize M.bi .tuple (.lc [11, 12, 13] (.cons (.nm 11) (.cons (.nm 12) (.t1 (.nm 13)))) (.dat (.bor 4)) .nil (.ife (.cmp .eq (.bor 12) (.bor 9)) (.cst (.int 1)) (.ife (.cmp .eq (.bor 11) (.bor 9)) (.neg (.cst (.int 1))) (.cst (.int 0))))) = mm at *
    generalize il (as.map fun a => entry a v) = R at *
    simp -implicitDefEqProofs [trnL, MP.bind, putO, lift, O.toD, B.toD, h], rfl⟩)
  rw [this, List.filter_eq_self.mpr fun _ _ => rfl]
  unfold rowsOf
  rw [List.map_map]
  rfl
end K57P
set_option linter.all false
set_option maxRecDepth 100000
set_option maxHeartbeats 4000000
namespace K57P
open PySem MP
theorem law_fin (k : Nat) (S N A ND BD TK RW : D) (n s t : Nat) (K : Int) (p : List D) (hp : Pool p) (x16 x17 x18 x19 x20 x21 : Option O) : Go (run tab (k + 6)) b_fin [some (dat S), some (.b (.lst p)), some (dat N), some (dat (.int (n : Int))), some (dat A), some (dat (.int (s : Int))), some (dat (.int (t : Int))), some (dat (.int K)), some (dat ND), none, some (dat BD), none, none, none, some (dat TK), some (dat RW), x16, x17, x18, x19, x20, x21, none, none, none, none, none, none, none] fun fl e2 => fl = .rt (dat (.bool true)) := by
  obtain ⟨p1, m, as, os, h1, hp1, hm2, hm4, hal, ha, hol, ho⟩ : ∃ (p' : List D) (n : Nat) (as os : List Arc), run tab (k + 6) 34 [.b (.lst p)] = some ([some (.b (.lst p'))], dat (.tuple [.int (n : Int), .tuple (as.map arcD), .tuple (os.map arcD)])) ∧ Pool p ∧ 2 ≤ n ∧ n ≤ 4 ∧ as.length ≤ 4 ∧ (∀ a ∈ as, a.1 < n ∧ a.2.1 < n) ∧ os.length ≤ 3 ∧ ∀ o ∈ os, o.1 < n ∧ o.2.1 < n ∧ 1 ≤ o.2.2 := by
    obtain ⟨p1, m, as, os, h1, q⟩ := law_orders (k + 2) p hp
    exact ⟨p1, m, as, os, h1, hp, q⟩
  obtain ⟨subs, hs, hg⟩ := law_subsets (k + 5) m (by omega)
  have body := fun (ks : List Nat) (x24 x25 x28 : Option O) => part k m as os ks (some (dat S)) (some (.b (.lst p1))) (some (dat N)) (some (dat A)) (some (dat (.int (s : Int)))) (some (dat (.int (t : Int)))) (some (dat (.int K))) (some (dat ND)) (some (dat BD)) (some (dat TK)) (some (dat RW)) x17 x18 x19 x20 x21 x24 x25 x28 (.tuple (as.map arcD)) (.tuple (os.map arcD)) (by omega) (by omega) (by omega) ha ho rfl rfl
  generalize PyData.tuple (as.map arcD) = T at *
  generalize PyData.tuple (os.map arcD) = OS at *
  refine Go.step (e' := [some (dat S), some (.b (.lst p1)), some (dat N), some (dat (.int (m : Int))), some (dat A), some (dat (.int (s : Int))), some (dat (.int (t : Int))), some (dat (.int K)), some (dat ND), none, some (dat BD), none, none, none, some (dat TK), some (dat RW), x16, x17, x18, x19, x20, x21, some (dat T), some (dat OS), none, none, none, none, none]) ?_ (Go.forr (xs := subs.map sideD) (e1 := [some (dat S), some (.b (.lst p1)), some (dat N), some (dat (.int (m : Int))), some (dat A), some (dat (.int (s : Int))), some (dat (.int (t : Int))), some (dat (.int K)), some (dat ND), none, some (dat BD), none, none, none, some (dat TK), some (dat RW), x16, x17, x18, x19, x20, x21, some (dat T), some (dat OS), none, none, none, none, none]) (fun i e => ∃ y16 y24 y25 y28, e = [some (dat S), some (.b (.lst p1)), some (dat N), some (dat (.int (m : Int))), some (dat A), some (dat (.int (s : Int))), some (dat (.int (t : Int))), some (dat (.int K)), some (dat ND), none, some (dat BD), none, none, none, some (dat TK), some (dat RW), y16, x17, x18, x19, x20, x21, some (dat T), some (dat OS), y24, y25, none, none, y28]) ?_ ⟨_, _, _, _, rfl⟩ ?_ ?_)
  · simp -implicitDefEqProofs [getB, B.toD, lift, O.toD, stillM, evas_of, putBack, putO, MP.bind, h1]
  · generalize subs.map sideD = L at *
    simp -implicitDefEqProofs [getB, B.toD, lift, O.toD, stillM, evas_of, putBack, seqD, hs]
  · intro i y e hx he
    obtain ⟨y16, y24, y25, y28, rfl⟩ := he
    rw [List.getElem?_map] at hx
    cases hq : subs[i]? with
    | none => rw [hq] at hx; cases hx
    | some ks =>
      rw [hq] at hx
      cases hx
      refine ⟨[some (dat S), some (.b (.lst p1)), some (dat N), some (dat (.int (m : Int))), some (dat A), some (dat (.int (s : Int))), some (dat (.int (t : Int))), some (dat (.int K)), some (dat ND), none, some (dat BD), none, none, none, some (dat TK), some (dat RW), some (dat (sideD ks)), x17, x18, x19, x20, x21, some (dat T), some (dat OS), y24, y25, none, none, y28], by simp -implicitDefEqProofs [MP.bind, putO], (body ks y24 y25 y28).mono fun fl e2 q => ?_⟩
      obtain ⟨rfl, z24, z25, z28, rfl⟩ := q
      exact ⟨rfl, _, _, _, _, rfl⟩
  · intro e2 he
    exact Go.ret (o := dat (.bool true)) ev_cst rfl
theorem law_true (k : Nat) (ns : List Int) : ∃ fs, callF f_law (run tab (k + 6)) [dat (.list (il ns))] = some (fs, dat (.bool true)) := by
  obtain ⟨p0, h0, hp0⟩ := law_pool (k + 5) ns
  obtain ⟨p1, n, as, h1, hp1, hN⟩ := law_net (k + 3) p0 hp0
  have hN' := hN
  obtain ⟨hn2, hn7, hal, _⟩ := hN'
  obtain ⟨p2, s, t, h2, hp2, hs, ht, hst⟩ := law_ends (k + 3) n p1 hp1 hn2 hn7
  obtain ⟨p3, v3, h3, hp3, hv3⟩ := drawN (k + 4) p2 8 hp2 (by omega) (by omega)
  obtain ⟨subs, hsub, hg⟩ := law_subsets (k + 5) n hn7
  generalize hS : PyData.list (il ns) = S at *
  obtain ⟨K, hK⟩ : ∃ K : Int, K = 1 + (v3 : Int) := ⟨_, rfl⟩
  have hnet : MP.bind (.cons (.nm 3) (.t1 (.nm 4))) (netD n as) [some (dat S), some (.b (.lst p1)), some (dat (netD n as)), none, none, none, none, none, none, none, none, none, none, none, none, none, none, none, none, none, none, none, none, none, none, none, none, none, none] = some [some (dat S), some (.b (.lst p1)), some (dat (netD n as)), some (dat (.int (n : Int))), some (dat (.tuple (as.map arcD))), none, none, none, none, none, none, none, none, none, none, none, none, none, none, none, none, none, none, none, none, none, none, none, none] := by simp [MP.bind, netD, putO]
  have l6 := lc_needs (run tab (k + 6)) S n s t K (by omega)
  have l7 := lc_arcR (run tab (k + 6)) S as (.tuple (as.map arcD)) rfl (by omega)
  have l9 := lc_rows (run tab (k + 6)) S n as (.tuple (as.map arcD)) rfl (by omega) (by omega)
  have body := fun (ks : List Nat) (hks : ks ∈ subs) (x17 x18 x19 x20 x21 : Option O) => side k n s t K as ks (some (dat S)) (some (.b (.lst p3))) x17 x18 x19 x20 x21 (netD n as) (.tuple (as.map arcD)) (.tuple (il (needs n s t K))) (.tuple [.int (n : Int), .tuple (as.map (arcR []))]) (.tuple [.str "task", .int (n : Int), .tuple (as.map (arcR [.int 0])), .tuple (il (needs n s t K)), .none]) (.tuple ((rowsOf n as).map fun r => .tuple (il r))) hN hs ht hst (hg ks hks).1 (hg ks hks).2 rfl rfl rfl rfl rfl rfl
  generalize netD n as = N at *
  generalize PyData.tuple (as.map arcD) = A at *
  generalize PyData.tuple (il (needs n s t K)) = ND at *
  generalize PyData.tuple (as.map (arcR [])) = A4 at *
  generalize PyData.tuple (as.map (arcR [.int 0])) = A5 at *
  generalize PyData.tuple ((rowsOf n as).map fun r => .tuple (il r)) = RW at *
  generalize hBD : PyData.tuple [.int (n : Int), A4] = BD at *
  generalize hTK : PyData.tuple [.str "task", .int (n : Int), A5, ND, .none] = TK at *
  obtain ⟨bs, o, h, q⟩ := call_ex (f := f_law) (C := run tab (k + 6)) (xs := [dat S]) (Q := fun bs o => o = dat (.bool true)) rfl (by
    refine Go.step (e' := [some (dat S), some (.b (.lst p0)), none, none, none, none, none, none, none, none, none, none, none, none, none, none, none, none, none, none, none, none, none, none, none, none, none, none, none]) ?_ (Go.step (e' := [some (dat S), some (.b (.lst p1)), some (dat N), none, none, none, none, none, none, none, none, none, none, none, none, none, none, none, none, none, none, none, none, none, none, none, none, none, none]) ?_ (Go.step (e' := [some (dat S), some (.b (.lst p1)), some (dat N), some (dat (.int (n : Int))), some (dat A), none, none, none, none, none, none, none, none, none, none, none, none, none, none, none, none, none, none, none, none, none, none, none, none]) ?_ (Go.step (e' := [some (dat S), some (.b (.lst p2)), some (dat N), some (dat (.int (n : Int))), some (dat A), some (dat (.int (s : Int))), some (dat (.int (t : Int))), none, none, none, none, none, none, none, none, none, none, none, none, none, none, none, none, none, none, none, none, none, none]) ?_ (Go.step (e' := [some (dat S), some (.b (.lst p3)), some (dat N), some (dat (.int (n : Int))), some (dat A), some (dat (.int (s : Int))), some (dat (.int (t : Int))), some (dat (.int K)), none, none, none, none, none, none, none, none, none, none, none, none, none, none, none, none, none, none, none, none, none]) ?_
      (Go.step (e' := [some (dat S), some (.b (.lst p3)), some (dat N), some (dat (.int (n : Int))), some (dat A), some (dat (.int (s : Int))), some (dat (.int (t : Int))), some (dat (.int K)), some (dat ND), none, none, none, none, none, none, none, none, none, none, none, none, none, none, none, none, none, none, none, none]) ?_ (Go.step (e' := [some (dat S), some (.b (.lst p3)), some (dat N), some (dat (.int (n : Int))), some (dat A), some (dat (.int (s : Int))), some (dat (.int (t : Int))), some (dat (.int K)), some (dat ND), none, some (dat BD), none, none, none, none, none, none, none, none, none, none, none, none, none, none, none, none, none, none]) ?_ (Go.step (e' := [some (dat S), some (.b (.lst p3)), some (dat N), some (dat (.int (n : Int))), some (dat A), some (dat (.int (s : Int))), some (dat (.int (t : Int))), some (dat (.int K)), some (dat ND), none, some (dat BD), none, none, none, some (dat TK), none, none, none, none, none, none, none, none, none, none, none, none, none, none]) ?_ (Go.step (e' := [some (dat S), some (.b (.lst p3)), some (dat N), some (dat (.int (n : Int))), some (dat A), some (dat (.int (s : Int))), some (dat (.int (t : Int))), some (dat (.int K)), some (dat ND), none, some (dat BD), none, none, none, some (dat TK), some (dat RW), none, none, none, none, none, none, none, none, none, none, none, none, none]) ?_
      (Go.forr (xs := subs.map sideD) (e1 := [some (dat S), some (.b (.lst p3)), some (dat N), some (dat (.int (n : Int))), some (dat A), some (dat (.int (s : Int))), some (dat (.int (t : Int))), some (dat (.int K)), some (dat ND), none, some (dat BD), none, none, none, some (dat TK), some (dat RW), none, none, none, none, none, none, none, none, none, none, none, none, none]) (fun i e => ∃ y16 y17 y18 y19 y20 y21, e = [some (dat S), some (.b (.lst p3)), some (dat N), some (dat (.int (n : Int))), some (dat A), some (dat (.int (s : Int))), some (dat (.int (t : Int))), some (dat (.int K)), some (dat ND), none, some (dat BD), none, none, none, some (dat TK), some (dat RW), y16, y17, y18, y19, y20, y21, none, none, none, none, none, none, none]) ?_ ⟨_, _, _, _, _, _, rfl⟩ ?_ ?_)))))))))
    · simp -implicitDefEqProofs [f_law, getB, B.toD, lift, O.toD, stillM, evas_of, putBack, putO, h0]
    · simp -implicitDefEqProofs [getB, B.toD, lift, O.toD, stillM, evas_of, putBack, putO, h1]
    · simp -implicitDefEqProofs [getB, B.toD, lift, O.toD, stillM, hnet]
    · simp -implicitDefEqProofs [getB, B.toD, lift, O.toD, stillM, evas_of, putBack, putO, MP.bind, h2]
    · simp -implicitDefEqProofs [getB, B.toD, lift, O.toD, now, stillM, evas_of, putBack, putO, addD, h3, hK]
    · rw [evS_set, l6]
      rfl
    · rw [evS_set, ev_tup_of (ds := [.int (n : Int), A4]) (e' := [some (dat S), some (.b (.lst p3)), some (dat N), some (dat (.int (n : Int))), some (dat A), some (dat (.int (s : Int))), some (dat (.int (t : Int))), some (dat (.int K)), some (dat ND), none, none, none, none, none, none, none, none, none, none, none, none, none, none, none, none, none, none, none, none]) (by
        have q7 := (l7 (some (.b (.lst p3))) (some (dat N)) (some (dat (.int (n : Int)))) (some (dat (.int (s : Int)))) (some (dat (.int (t : Int)))) (some (dat (.int K))) (some (dat ND)) none none none).1
        generalize M.bi .tuple (.lc [11, 12, 13] (.cons (.nm 11) (.cons (.nm 12) (.t1 (.nm 13)))) (.dat (.bor 4)) .nil (.tup (.cons (.var 11) (.cons (.var 12) (.cons (.cst (.int 0)) (.cons (.var 13) .nil)))))) = mm at *
        simp -implicitDefEqProofs [getB, B.toD, lift, O.toD, stillM, q7]) (by simp), hBD]
      rfl
    · rw [evS_set, ev_tup_of (ds := [.str "task", .int (n : Int), A5, ND, .none]) (e' := [some (dat S), some (.b (.lst p3)), some (dat N), some (dat (.int (n : Int))), some (dat A), some (dat (.int (s : Int))), some (dat (.int (t : Int))), some (dat (.int K)), some (dat ND), none, some (dat BD), none, none, none, none, none, none, none, none, none, none, none, none, none, none, none, none, none, none]) (by
        have q7 := (l7 (some (.b (.lst p3))) (some (dat N)) (some (dat (.int (n : Int)))) (some (dat (.int (s : Int)))) (some (dat (.int (t : Int)))) (some (dat (.int K))) (some (dat ND)) (some (dat BD)) none none).2
        generalize M.bi .tuple (.lc [11, 12, 13] (.cons (.nm 11) (.cons (.nm 12) (.t1 (.nm 13)))) (.dat (.bor 4)) .nil (.tup (.cons (.var 11) (.cons (.var 12) (.cons (.cst (.int 0)) (.cons (.var 13) (.cons (.cst (.int 0)) .nil))))))) = mm at *
        simp -implicitDefEqProofs [getB, B.toD, lift, O.toD, stillM, q7]) (by simp), hTK]
      rfl
    · rw [evS_set, l9]
      rfl
    · generalize subs.map sideD = L at *
      simp -implicitDefEqProofs [getB, B.toD, lift, O.toD, stillM, evas_of, putBack, seqD, hsub]
    · intro i y e hx he
      obtain ⟨y16, y17, y18, y19, y20, y21, rfl⟩ := he
      rw [List.getElem?_map] at hx
      cases hq : subs[i]? with
      | none => rw [hq] at hx; cases hx
      | some ks =>
        rw [hq] at hx
        cases hx
        refine ⟨[some (dat S), some (.b (.lst p3)), some (dat N), some (dat (.int (n : Int))), some (dat A), some (dat (.int (s : Int))), some (dat (.int (t : Int))), some (dat (.int K)), some (dat ND), none, some (dat BD), none, none, none, some (dat TK), some (dat RW), some (dat (sideD ks)), y17, y18, y19, y20, y21, none, none, none, none, none, none, none], by simp -implicitDefEqProofs [MP.bind, putO], (body ks (List.mem_of_getElem? hq) y17 y18 y19 y20 y21).mono fun fl e2 q => ?_⟩
        obtain ⟨rfl, z17, z18, z19, z20, z21, rfl⟩ := q
        exact ⟨rfl, _, _, _, _, _, _, rfl⟩
    · intro e2 he
      obtain ⟨y16, y17, y18, y19, y20, y21, rfl⟩ := he
      exact (law_fin k S N A ND BD TK RW n s t K p3 hp3 y16 y17 y18 y19 y20 y21).mono fun fl e2 q => ⟨_, q, rfl⟩)
  exact ⟨bs, by rw [h, q]⟩
end K57P
set_option Elab.async false
set_option linter.all false
set_option maxRecDepth 100000
set_option maxHeartbeats 0
namespace K57
open PySem PySem.Spec PyProof.Rows L2 MP
theorem bo_is_integer : BindOk d_is_integer := fun _ _ _ _ _ _ us hl => match us, hl with | [_], _ => rfl
theorem c_is_integer : chkR pg false d_is_integer = true := by decide +kernel
theorem bo_is_within : BindOk d_is_within := fun _ _ _ _ _ _ us hl => match us, hl with | [_, _, _], _ => rfl
theorem c_is_within : chkR pg false d_is_within = true := by decide +kernel
theorem bo_is_row : BindOk d_is_row := fun _ _ _ _ _ _ us hl => match us, hl with | [_, _], _ => rfl
theorem c_is_row : chkR pg false d_is_row = true := by decide +kernel
theorem bo_is_row_within : BindOk d_is_row_within := fun _ _ _ _ _ _ us hl => match us, hl with | [_, _, _, _], _ => rfl
theorem c_is_row_within : chkR pg false d_is_row_within = true := by decide +kernel
theorem bo_is_worded : BindOk d_is_worded := fun _ _ _ _ _ _ us hl => match us, hl with | [_, _, _], _ => rfl
theorem c_is_worded : chkR pg false d_is_worded = true := by decide +kernel
theorem bo_is_places : BindOk d_is_places := fun _ _ _ _ _ _ us hl => match us, hl with | [_, _], _ => rfl
theorem c_is_places : chkR pg false d_is_places = true := by decide +kernel
theorem bo_is_ascending : BindOk d_is_ascending := fun _ _ _ _ _ _ us hl => match us, hl with | [_], _ => rfl
theorem c_is_ascending : chkR pg false d_is_ascending = true := by decide +kernel
theorem bo_crossing : BindOk d_crossing := fun _ _ _ _ _ _ us hl => match us, hl with | [_, _], _ => rfl
theorem c_crossing : chkR pg false d_crossing = true := by decide +kernel
theorem bo_is_quotient : BindOk d_is_quotient := fun _ _ _ _ _ _ us hl => match us, hl with | [_], _ => rfl
theorem c_is_quotient : chkR pg false d_is_quotient = true := by decide +kernel
theorem bo_quotient : BindOk d_quotient := fun _ _ _ _ _ _ us hl => match us, hl with | [_, _], _ => rfl
theorem c_quotient : chkR pg false d_quotient = true := by decide +kernel
theorem bo_plus : BindOk d_plus := fun _ _ _ _ _ _ us hl => match us, hl with | [_, _], _ => rfl
theorem c_plus : chkR pg false d_plus = true := by decide +kernel
theorem bo_minus : BindOk d_minus := fun _ _ _ _ _ _ us hl => match us, hl with | [_, _], _ => rfl
theorem c_minus : chkR pg false d_minus = true := by decide +kernel
theorem bo_times : BindOk d_times := fun _ _ _ _ _ _ us hl => match us, hl with | [_, _], _ => rfl
theorem c_times : chkR pg false d_times = true := by decide +kernel
theorem bo_is_less : BindOk d_is_less := fun _ _ _ _ _ _ us hl => match us, hl with | [_, _], _ => rfl
theorem c_is_less : chkR pg false d_is_less = true := by decide +kernel
theorem bo_total : BindOk d_total := fun _ _ _ _ _ _ us hl => match us, hl with | [_], _ => rfl
theorem c_total : chkR pg false d_total = true := by decide +kernel
theorem bo_is_quotient_row : BindOk d_is_quotient_row := fun _ _ _ _ _ _ us hl => match us, hl with | [_, _], _ => rfl
theorem c_is_quotient_row : chkR pg false d_is_quotient_row = true := by decide +kernel
theorem bo_is_crowd : BindOk d_is_crowd := fun _ _ _ _ _ _ us hl => match us, hl with | [_, _, _], _ => rfl
theorem c_is_crowd : chkR pg false d_is_crowd = true := by decide +kernel
theorem bo_Task_judge : BindOk d_Task_judge := fun _ _ _ _ _ _ us hl => match us, hl with | [_, _, _], _ => rfl
theorem c_Task_judge : chkR pg false d_Task_judge = true := by decide +kernel
theorem bo_is_cut : BindOk d_is_cut := fun _ _ _ _ _ _ us hl => match us, hl with | [_, _, _, _, _], _ => rfl
theorem c_is_cut : chkR pg false d_is_cut = true := by decide +kernel
theorem bo_Flow_judge : BindOk d_Flow_judge := fun _ _ _ _ _ _ us hl => match us, hl with | [_, _, _], _ => rfl
theorem c_Flow_judge : chkR pg false d_Flow_judge = true := by decide +kernel
theorem bo_Need_judge : BindOk d_Need_judge := fun _ _ _ _ _ _ us hl => match us, hl with | [_, _, _], _ => rfl
theorem c_Need_judge : chkR pg false d_Need_judge = true := by decide +kernel
theorem bo_least_product : BindOk d_least_product := fun _ _ _ _ _ _ us hl => match us, hl with | [_, _, _], _ => rfl
theorem c_least_product : chkR pg false d_least_product = true := by decide +kernel
theorem bo_dot : BindOk d_dot := fun _ _ _ _ _ _ us hl => match us, hl with | [_, _], _ => rfl
theorem c_dot : chkR pg false d_dot = true := by decide +kernel
theorem bo_Linear_judge : BindOk d_Linear_judge := fun _ _ _ _ _ _ us hl => match us, hl with | [_, _, _], _ => rfl
theorem c_Linear_judge : chkR pg false d_Linear_judge = true := by decide +kernel
theorem bo_far_from : BindOk d_far_from := fun _ _ _ _ _ _ us hl => match us, hl with | [_, _, _, _], _ => rfl
theorem c_far_from : chkR pg false d_far_from = true := by decide +kernel
theorem bo_Orders_judge : BindOk d_Orders_judge := fun _ _ _ _ _ _ us hl => match us, hl with | [_, _, _], _ => rfl
theorem c_Orders_judge : chkR pg false d_Orders_judge = true := by decide +kernel
theorem bo_judge : BindOk d_judge := fun _ _ _ _ _ _ us hl => match us, hl with | [_, _], _ => rfl
theorem c_judge : chkR pg false d_judge = true := by decide +kernel
theorem bo__law_same : BindOk d__law_same := fun _ _ _ _ _ _ us hl => match us, hl with | [_, _], _ => rfl
theorem c__law_same : chkR pg false d__law_same = true := by decide +kernel
theorem bo__law_pool : BindOk d__law_pool := fun _ _ _ _ _ _ us hl => match us, hl with | [_], _ => rfl
theorem c__law_pool : chkR pg false d__law_pool = true := by decide +kernel
theorem bo__law_spread : BindOk d__law_spread := fun _ _ _ _ _ _ us hl => match us, hl with | [_], _ => rfl
theorem c__law_spread : chkR pg false d__law_spread = true := by decide +kernel
theorem bo__law_draw : BindOk d__law_draw := fun _ _ _ _ _ _ us hl => match us, hl with | [_, _], _ => rfl
theorem c__law_draw : chkR pg false d__law_draw = true := by decide +kernel
theorem bo__law_subsets : BindOk d__law_subsets := fun _ _ _ _ _ _ us hl => match us, hl with | [_], _ => rfl
theorem c__law_subsets : chkR pg false d__law_subsets = true := by decide +kernel
theorem bo__law_net : BindOk d__law_net := fun _ _ _ _ _ _ us hl => match us, hl with | [_, _, _], _ => rfl
theorem c__law_net : chkR pg false d__law_net = true := by decide +kernel
theorem bo__law_ends : BindOk d__law_ends := fun _ _ _ _ _ _ us hl => match us, hl with | [_, _], _ => rfl
theorem c__law_ends : chkR pg false d__law_ends = true := by decide +kernel
theorem bo__law_orders : BindOk d__law_orders := fun _ _ _ _ _ _ us hl => match us, hl with | [_], _ => rfl
theorem c__law_orders : chkR pg false d__law_orders = true := by decide +kernel
theorem bo_law : BindOk d_law := fun _ _ _ _ _ _ us hl => match us, hl with | [_], _ => rfl
theorem c_law : chkR pg true d_law = true := by decide +kernel
theorem bo_kind_of : BindOk d_kind_of := fun _ _ _ _ _ _ us hl => match us, hl with | [_], _ => rfl
theorem c_kind_of : chkK tb_kind_of d_kind_of = true := by decide +kernel
theorem kb_all : ∀ q ∈ kd, BindOk q.1 := List.forall_mem_cons.mpr ⟨bo_kind_of, fun _ h => nomatch h⟩
theorem kc_all : kd.all (fun q => chkK q.2 q.1 && q.1.own.isNone) = true := by
  simp only [kd, List.all_cons, List.all_nil, c_kind_of, Bool.and_self, Bool.true_and, Bool.and_true] <;> rfl
theorem bo_all : ∀ d ∈ ds, BindOk d := List.forall_mem_cons.mpr ⟨bo_is_integer, List.forall_mem_cons.mpr ⟨bo_is_within, List.forall_mem_cons.mpr ⟨bo_is_row, List.forall_mem_cons.mpr ⟨bo_is_row_within, List.forall_mem_cons.mpr ⟨bo_is_worded, List.forall_mem_cons.mpr ⟨bo_is_places, List.forall_mem_cons.mpr ⟨bo_is_ascending, List.forall_mem_cons.mpr ⟨bo_crossing, List.forall_mem_cons.mpr ⟨bo_is_quotient, List.forall_mem_cons.mpr ⟨bo_quotient, List.forall_mem_cons.mpr ⟨bo_plus, List.forall_mem_cons.mpr ⟨bo_minus, List.forall_mem_cons.mpr ⟨bo_times, List.forall_mem_cons.mpr ⟨bo_is_less, List.forall_mem_cons.mpr ⟨bo_total, List.forall_mem_cons.mpr ⟨bo_is_quotient_row, List.forall_mem_cons.mpr ⟨bo_is_crowd, List.forall_mem_cons.mpr ⟨bo_Task_judge, List.forall_mem_cons.mpr ⟨bo_is_cut, List.forall_mem_cons.mpr ⟨bo_Flow_judge, List.forall_mem_cons.mpr ⟨bo_Need_judge, List.forall_mem_cons.mpr ⟨bo_least_product, List.forall_mem_cons.mpr ⟨bo_dot, List.forall_mem_cons.mpr ⟨bo_Linear_judge, List.forall_mem_cons.mpr ⟨bo_far_from, List.forall_mem_cons.mpr ⟨bo_Orders_judge, List.forall_mem_cons.mpr ⟨bo_judge, List.forall_mem_cons.mpr ⟨bo__law_same, List.forall_mem_cons.mpr ⟨bo__law_pool, List.forall_mem_cons.mpr ⟨bo__law_spread, List.forall_mem_cons.mpr ⟨bo__law_draw, List.forall_mem_cons.mpr ⟨bo__law_subsets, List.forall_mem_cons.mpr ⟨bo__law_net, List.forall_mem_cons.mpr ⟨bo__law_ends, List.forall_mem_cons.mpr ⟨bo__law_orders, fun _ h => nomatch h⟩⟩⟩⟩⟩⟩⟩⟩⟩⟩⟩⟩⟩⟩⟩⟩⟩⟩⟩⟩⟩⟩⟩⟩⟩⟩⟩⟩⟩⟩⟩⟩⟩⟩⟩
theorem c_all : ds.all (chkD pg) = true := by
  simp only [ds, List.all_cons, List.all_nil, chkD, c_is_integer, c_is_within, c_is_row, c_is_row_within, c_is_worded, c_is_places, c_is_ascending, c_crossing, c_is_quotient, c_quotient, c_plus, c_minus, c_times, c_is_less, c_total, c_is_quotient_row, c_is_crowd, c_Task_judge, c_is_cut, c_Flow_judge, c_Need_judge, c_least_product, c_dot, c_Linear_judge, c_far_from, c_Orders_judge, c_judge, c__law_same, c__law_pool, c__law_spread, c__law_draw, c__law_subsets, c__law_net, c__law_ends, c__law_orders, Bool.and_self]
-- top places: law 158
-- imports: 0
theorem pure_law (ns : List Int) (h : ns.length ≤ 63) : ∃ fs, callF d_law.fn (run (ds.map (·.fn)) 20) [dat (.list (ns.map PyData.int))] = some (fs, dat (.bool true)) := K57P.law_true 14 ns
end K57
open PySem PySem.W PySem.Calls PyProof.Rows
theorem PySem.Challenge.cw_flowwright_k57_whole_bars_across_holds : PySem.Challenge.rw_flowwright_k57_whole_bars_across.Holds := by
  refine K57.sealed fun said => K57.topI said ?hc
  case hc =>
    refine MP.walk_law (l := PySem.Challenge.rw_flowwright_k57_whole_bars_across) (n := 63) rfl (by decide) K57.z_dflt ?F
    intro w mg fa h Y G hmg0
    obtain ⟨K, KX, c⟩ := Y
    have hmg : mg ("law" : PySem.Str) = some (.ref fa) := by
      rw [← K57.z_name]
      exact hmg0
    exact ⟨K, KX, MP.law_r (N := 20) KX G c rfl rfl K57.kc_all K57.kb_all rfl K57.c_all K57.c_law K57.bo_all K57.bo_law rfl ⟨rfl, by decide, by decide⟩ hmg fun ns hn _ => K57.pure_law ns hn⟩
