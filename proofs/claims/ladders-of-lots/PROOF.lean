import PyProof.Rows.All
import Wide.All
import OpenK.AllK
import Wide.FinOn
import HandS.ForMost
import HandS.AnyAll
import HandS.GenOver
import HandS.GenList
import PyProof.GenRules
import PyProof.GenQ
import HandS.Zip
import KE.GoesMore
import KE.GoesEnum
import HandS.DictTup
import HandS.SetFor
import HandS.SortRule
import HandS.More
import KE.KDictCopyH
import HandS.ForExc
import HandS.ExcInit
import HandS.ExcCtx
import HandS.ExcField
import HandS.ExcIs
import HandS.HotCalls
import HandS.IsInst
import KE.KExcIs
import HandS.Walk
import HandS.TupLe
import HandS.Style
import HandS.TupAny
import HandS.EndTab
import KE.KNest
import KE.KNestM
import KE.KStateDown
import HandS.Head0
import HandS.Head1
import HandS.Head2
import HandS.HeadEnd
import HandS.HeadHook1
import HandS.HeadHook2
import HandS.HeadWalk
import PySem.Challenge.RW_keptandsaid_k28_ladders_of_lots
set_option Elab.async false
set_option linter.all false
set_option maxRecDepth 100000
set_option maxHeartbeats 4000000
namespace GA
open PySem PySem.Spec PyProof.Rows L2 GenW GxR

/-- the context of the generator expression's frame -/
abbrev gcx (X : Cx) (s : Shared) (H : Hp) (A : Around) (cenv : Env) (fp : List Addr) (pn : List (Addr × Obj)) : Cx :=
  { X with A := A, s_0 := s, H_0 := H, env := cenv, outer := X.stack, stack := cenv :: X.stack, ex := fp, fn := fun _ => false, pn := pn, xe := fun _ _ => False }
theorem over_gen {A : Around} {elt : Expr} {gs : List Comprehension} {scope : Scope} {pos : Pos} {it acc : Value} {env : Env} :
    A.over (.compLoop (.GeneratorExp elt gs scope pos) 0 it acc env) [] = A.deeper env := by
  first
    | rfl
    | (obtain ⟨hd, d, fr, gs, u⟩ := A; simp [Around.over, Around.deeper, marksOver, frameCount, unitsOf, envsOf, guardsOf, pushEnvs, pushGuards, Code.envs, Code.env?, Code.isFrame, Code.guards, Code.isGuard, Code.weight, Code.frames, Code.isCreation, Code.isCaller, Code.cUnits, Code.isInlined])
/-- gens, tokens, draws changed alone -/
theorem inv_gens {X : Cx} {pins : List (Addr × Obj)} {σ : L2.St} {H : Hp} {s : Shared} {g' : Array GenState} {t' : Nat} {d' : Drawn} (I : Inv X pins σ H s) (hg : AllBare g') : Inv X pins σ H { s with gens := g', toks := t', drawn := d' } :=
  I.call (g' := g') (t' := t') (d' := d') (h' := s.heap) (ch := []) Un.refl I.hok hg fun b z => absurd z (by simp)

section
variable {prog : Program} {w : World} {Y : Cx} {fp : List Addr} {tn : Nat → Heap → Prop} {W : Nat → Hp → Prop} {σ0 : L2.St} {N : Nat} {J : It} {it a : Addr} {g : Nat}
/-- ahead of turn j -/
def GAt (Y : Cx) (fp : List Addr) (tn : Nat → Heap → Prop) (W : Nat → Hp → Prop) (σ0 : L2.St) (j : Nat) (s : Shared) : Prop := ∃ H, Inv Y [] σ0 H s ∧ tn j s.heap ∧ (∀ b ∈ fp, H b = none) ∧ W j H
def GEnd (Y : Cx) (W : Nat → Hp → Prop) (σ0 : L2.St) (N : Nat) (s : Shared) : Prop := ∃ H, Inv Y [] σ0 H s ∧ W N H
def Yp (Y : Cx) (fp : List Addr) (tn : Nat → Heap → Prop) (W : Nat → Hp → Prop) (σ0 : L2.St) (N : Nat) : Protocol := fun n s₀ v s kap => v = .bool true ∧ GAt Y fp tn W σ0 (N - n) s ∧ ∀ s'', GAt Y fp tn W σ0 (N - n) s'' → kap (.send .none) s''
theorem GAt.gens {j : Nat} {s : Shared} {g' : Array GenState} {t' : Nat} {d' : Drawn} (h : GAt Y fp tn W σ0 j s) (hg : AllBare g') : GAt Y fp tn W σ0 j { s with gens := g', toks := t', drawn := d' } := by
  obtain ⟨H, I, r⟩ := h
  exact ⟨H, inv_gens I hg, r⟩

/-- the generator's own turns -/
theorem seg_loop {elt iter : Expr} {x : Str} {px : Pos} {scope : Scope} {pos : Pos} {A : Around} {i : Nat} {el : TE} {σ : L2.St}
    (hA : Y.A = A.deeper Y.env) (hprog : Y.prog = prog) (hw : Y.w = w) (hcalm : Y.calm = true) (hN : Y.N.Nodup) (hi : Y.N[i]? = some x) (hx : Y.env.scope.names.lookup x = some .local) (hco : Y.env.scope.isCoroutine = false)
    (hσ : σ0 = σ.set i none) (hfp : ∀ b ∈ fp, b ∈ Y.ex) (hfpn : ∀ b ∈ fp, ∀ p ∈ Y.pn, p.1 ≠ b) (hxe : ∀ e s, ¬ Y.xe e s)
    (T : Turn prog w Y.K (.Name x px) J fp it tn) (he : PE Y elt el)
    (hturn : ∀ j H2, j < N → W j H2 → J.go j H2 ∧ ∀ x H3, J.yld j H2 x H3 → el (σ0.set i (some x)) H3 fun y H4 => y = .bl true ∧ W (j + 1) H4)
    (hstop : ∀ H2, W N H2 → J.stop N H2) :
    ∀ (k j : Nat) (s₀ s : Shared), N - j = k → j ≤ N → GAt Y fp tn W σ0 j s →
      Seg (model prog w) A (fun n s₀ r s₁ => r = .ok .next ∧ (n = 0 ∧ GEnd Y W σ0 N s₁)) (Yp Y fp tn W σ0 N) k s₀
        (.compLoop (.GeneratorExp elt [⟨.Name x px, iter, [], 0⟩] scope pos) 0 (.ref it) .none Y.env)
        ((model prog w).den (.compLoop (.GeneratorExp elt [⟨.Name x px, iter, [], 0⟩] scope pos) 0 (.ref it) .none Y.env)) [] s := by
  subst hprog hw
  have ov : A.over (.compLoop (.GeneratorExp elt [⟨.Name x px, iter, [], 0⟩] scope pos) 0 (.ref it) .none Y.env) [] = Y.A := by rw [hA]; exact over_gen
  have fpOk : ∀ {σ' : L2.St} {H' : Hp} {s' : Shared}, Inv Y [] σ' H' s' → (∀ b ∈ fp, H' b = none) → ∀ b ∈ fp, FpOk Y [] H' b := fun {σ' H' s'} I' hn b hb =>
    ⟨hn b hb, (I'.ok.exf b (hfp b hb)).1, I'.ok.exfs b (hfp b hb), .inl (hfp b hb), fun x c e => (I'.ok.exf b (hfp b hb)).2 x c e, fun p hp => hfpn b hb p (by simpa using hp)⟩
  intro k
  induction k with
  | zero =>
    intro j s₀ s hk hj ⟨H, I, st, fr, wj⟩
    have hjn : j = N := by omega
    subst hjn
    show Seg _ A _ _ _ s₀ _ ((compTurn (.GeneratorExp elt [⟨.Name x px, iter, [], 0⟩] scope pos) 0 (.ref it) .none Y.env).onRaise (leaving Y.env)) [] s
    rw [compTurn_gen, Sem.onRaise_eq_wrap]
    refine seg_bind_wrap (wpAny_standAt ?_)
    refine seg_bind_wrap ?_
    rw [ov]
    refine thn (T.done Y rfl rfl rfl hcalm j [] s _ H _ I (fpOk I fr) st (hstop H wj)) fun r s' ⟨hr, I'⟩ => ?_
    subst hr
    exact seg_end (.ok .next) ⟨rfl, rfl, H, I', wj⟩
  | succ k ih =>
    intro j s₀ s hk hj ⟨H, I, st, fr, wj⟩
    have hlt : j < N := by omega
    obtain ⟨go, step⟩ := hturn j H hlt wj
    show Seg _ A _ _ _ s₀ _ ((compTurn (.GeneratorExp elt [⟨.Name x px, iter, [], 0⟩] scope pos) 0 (.ref it) .none Y.env).onRaise (leaving Y.env)) [] s
    rw [compTurn_gen, Sem.onRaise_eq_wrap]
    refine seg_bind_wrap (wpAny_standAt ?_)
    refine seg_bind_wrap ?_
    rw [ov]
    refine thn (T.item Y rfl rfl rfl hcalm j [] s _ H _ I (fpOk I fr) st go) fun r s1 ⟨u, hr, h1⟩ => ?_
    subst hr
    refine seg_bind_wrap ?_
    rw [ov]
    refine thn h1 fun _ s2 ⟨xv, H2, I2, r2, y2, st2, fr2⟩ => ?_
    have I2' := I2.pinned (fpOk I2 fr2) (T.obj _ _ st2)
    refine seg_bind_wrap (wpAny_assign_Name (store_ok (v := xv) I2' hN hi (.inl hx) r2 (fun s3 I3 => ?_) (.inr hx)))
    refine seg_bind_wrap ?_
    rw [List.forIn_nil]
    refine wpAny_pure ?_
    simp only [if_true]
    have hy : ∀ v, yieldOut Y.env v = yieldValue v := fun v => by simp only [yieldOut, hco, Bool.false_eq_true, if_false]
    simp only [hy]
    rw [Sem.bind_eq_wrap', Sem.bind_eq_wrap', Sem.wrap_wrap, Sem.wrap_wrap]
    refine seg_wrap ?_
    rw [ov]
    refine wpAny_mono (he.run _ s3 _ H2 _ I3 (step xv H2 y2)) (fun v s4 ⟨yv, H4, I4, r4, ey, w4⟩ => ?_) fun _ s4 hx4 => ?_
    · subst ey
      obtain rfl : v = Value.bool true := r4
      have e1 : N - k = j + 1 := by omega
      have nowA : GAt Y fp tn W σ0 (j + 1) s4 := by
        have pin' : ∀ b ∈ fp, ∀ o, s2.heap.get? b = some o → s4.heap.get? b = some o ∧ H4 b = none := fun b hb o e =>
          let z := I4.pin (b, o) (List.mem_append_right _ (List.mem_append_right _ (mem_pinsAt hb e)))
          ⟨z.1, z.2.1⟩
        refine ⟨H4, (I4.unpinned (pins := [])).weak ?_ (fun q v e => ?_), T.keep _ _ _ st2 fun b hb o e => (pin' b hb o e).1, fun b hb => ?_, w4⟩
        · rw [List.length_set]
        · rw [hσ] at e
          rw [hσ]
          by_cases hq : q = i
          · subst hq
            by_cases hl : q < σ.length
            · rw [List.getElem?_set_self hl] at e; cases e
            · rw [List.getElem?_eq_none (by simpa using hl)] at e; cases e
          · rw [List.getElem?_set_ne (Ne.symm hq)]
            exact e
        · obtain ⟨o, e, _⟩ := T.obj _ _ st2 b hb
          exact (pin' b hb o e).2
      refine seg_at (seg_yield rfl rfl rfl ⟨rfl, ?_, fun s'' hs => ?_⟩)
      · rw [e1]; exact nowA
      · rw [e1] at hs
        exact seg_again rfl (ih (j + 1) s'' s'' (by omega) hlt hs)
    · exact False.elim (hxe _ _ hx4)
theorem seg_start {elt iter : Expr} {x : Str} {px : Pos} {scope : Scope} {pos : Pos} {A : Around} {i : Nat} {el : TE} {σ : L2.St}
    (hA : Y.A = A.deeper Y.env) (hprog : Y.prog = prog) (hw : Y.w = w) (hcalm : Y.calm = true) (hN : Y.N.Nodup) (hi : Y.N[i]? = some x) (hx : Y.env.scope.names.lookup x = some .local) (hco : Y.env.scope.isCoroutine = false)
    (hσ : σ0 = σ.set i none) (hfp : ∀ b ∈ fp, b ∈ Y.ex) (hfpn : ∀ b ∈ fp, ∀ p ∈ Y.pn, p.1 ≠ b) (hxe : ∀ e s, ¬ Y.xe e s)
    (T : Turn prog w Y.K (.Name x px) J fp it tn) (he : PE Y elt el)
    (hturn : ∀ j H2, j < N → W j H2 → J.go j H2 ∧ ∀ x H3, J.yld j H2 x H3 → el (σ0.set i (some x)) H3 fun y H4 => y = .bl true ∧ W (j + 1) H4)
    (hstop : ∀ H2, W N H2 → J.stop N H2) (s₀ s : Shared) (h : GAt Y fp tn W σ0 0 s) :
    Seg (model prog w) A (fun n s₀ r s₁ => r = .ok .next ∧ (n = 0 ∧ GEnd Y W σ0 N s₁)) (Yp Y fp tn W σ0 N) N s₀
      (.compStart (.GeneratorExp elt [⟨.Name x px, iter, [], 0⟩] scope pos) 0 (.ref it) .none Y.env)
      ((model prog w).den (.compStart (.GeneratorExp elt [⟨.Name x px, iter, [], 0⟩] scope pos) 0 (.ref it) .none Y.env)) [] s := by
  have loop := seg_loop (iter := iter) (scope := scope) (pos := pos) hA hprog hw hcalm hN hi hx hco hσ hfp hfpn hxe T he hturn hstop N 0 s₀ s (Nat.sub_zero _) (Nat.zero_le _) h
  obtain ⟨H, I, st, fr, wj⟩ := h
  show Seg _ A _ _ _ s₀ _ ((compStart (.GeneratorExp elt [⟨.Name x px, iter, [], 0⟩] scope pos) 0 (.ref it) .none Y.env).onRaise (leaving Y.env)) [] s
  unfold compStart
  rw [Sem.onRaise_eq_wrap]
  show Seg _ A _ _ _ s₀ _ ((ask >>= _).wrap _ _ _ _) [] s
  refine seg_bind_wrap (wpAny_askSetting ?_)
  split
  · exact seg_again rfl loop
  · first
      | exact seg_bind_wrap (wpAny_rule (seg_bind_wrap (wpAny_standAt (seg_bind_wrap (T.self _ 0 s _ _ st (seg_again rfl loop))))))
      | (refine seg_bind_wrap (wpAny_rule ?_); show Seg _ A _ _ _ s₀ _ ((standAt iter.pos >>= _).wrap _ _ _ _) [] s; exact seg_bind_wrap (wpAny_standAt (seg_bind_wrap (T.self _ 0 s _ _ st (seg_again rfl loop)))))

/-- the consumer: all(g) -/
theorem all_loop {A : Around} {R : Result → Shared → Prop} (hprog : Y.prog = prog) (hw : Y.w = w) (hh : A.handled = none) (hroom : A.depth < recursionLimit) (hpin : ∃ go, (a, go) ∈ Y.pn ∧ ∀ h : Heap, h.get? a = some go → h.IsGen a g)
    (hR : ∀ s', GEnd Y W σ0 N s' → R (.ok (.ret (.bool true))) s') :
    ∀ (k j : Nat) (s : Shared) (gs : GenState), N - j = k → j ≤ N → GAt Y fp tn W σ0 j s → s.gens[g]? = some gs →
      (∀ s'', GAt Y fp tn W σ0 j s'' → gs.Goes (model prog w) A.in1.in1 (fun n s₀ r s₁ => r = .ok .next ∧ (n = 0 ∧ GEnd Y W σ0 N s₁)) (Yp Y fp tn W σ0 N) k (.send .none) s'') →
      codeAny (model prog w) A (.builtin "all.loop" ⟨[.ref a], []⟩) R s := by
  obtain ⟨go, hgo, hgen⟩ := hpin
  have isG : ∀ {j : Nat} {s : Shared}, GAt Y fp tn W σ0 j s → s.heap.IsGen a g ∧ s.heap.NoLimit ∧ AllBare s.gens := fun {j s} ⟨H, I, _⟩ =>
    ⟨hgen _ (I.pin (a, go) (List.mem_append_left _ hgo)).1, I.nolimit, I.bare⟩
  intro k
  induction k with
  | zero =>
    intro j s gs hk hj hG hgs hgoes
    obtain ⟨g1, g2, g3⟩ := isG hG
    refine codeAny_builtin F.entry_all_loop ?_
    rw [Around.under_plainId F.plain_all_loop _]
    show wpAny _ A.in1 (pyNext (.ref a) >>= _) _ _ s
    refine wpAny_bind (wpAny_pyNext_genexpQ (A := A.in1) (P := fun n s₀ s₁ => n = 0 ∧ GEnd Y W σ0 N s₁) hh g2 hroom g1 hgs (hgoes _ (hG.gens (allBare_setGen g3 rfl))) (fun v s₁ gs' hb hv => ?_) (fun s₁ hp h' hk' => ?_))
    · obtain ⟨_, h1, h2⟩ := hv
      exact False.elim (h2 _ h1)
    · obtain ⟨_, H, I, wN⟩ := hp
      refine wpAny_bind (wpAny_rule (wpAny_pure (hR _ ⟨H, ?_, wN⟩)))
      exact (inv_gens I (allBare_setGen I.bare rfl) : Inv Y [] σ0 H (s₁.setGen g .finished)).kept (t' := (s₁.setGen g .finished).toks) hk'
  | succ k ih =>
    intro j s gs hk hj hG hgs hgoes
    obtain ⟨g1, g2, g3⟩ := isG hG
    have hgl : g < s.gens.size := (Array.getElem?_eq_some_iff.mp hgs).1
    refine codeAny_builtin F.entry_all_loop ?_
    rw [Around.under_plainId F.plain_all_loop _]
    show wpAny _ A.in1 (pyNext (.ref a) >>= _) _ _ s
    refine wpAny_bind (wpAny_gsz (n := g + 1) hgl (wpAny_pyNext_genexpQ (A := A.in1) (P := fun n s₀ s₁ => n = 0 ∧ GEnd Y W σ0 N s₁) hh g2 hroom g1 hgs (hgoes _ (hG.gens (allBare_setGen g3 rfl))) (fun v s₁ gs' hb hv => ?_) (fun s₁ hp h' hk' => ?_)))
    · intro hsz
      obtain ⟨ev, h1, h2⟩ := hv
      subst ev
      have e1 : N - (k + 1 - 1) = j + 1 := by omega
      rw [e1] at h1 h2
      have hsz1 : g < s₁.gens.size := by
        have q : (s₁.setGen g gs').gens.size = s₁.gens.size := setGen_size _ _ _
        omega
      refine wpAny_bind (wpAny_holding (wpAny_truthy_bool ?_))
      refine wpAny_bind (wpAny_letGo ?_)
      simp only [if_true]
      obtain ⟨_, _, b1⟩ := isG h1
      refine wpAny_pure ⟨plainId_quiet F.plain_all_loop _, ih (j + 1) _ gs' (by omega) (by omega) (h1.gens (allBare_setGen b1 hb)) (setGen_at hsz1) fun s'' hs'' => h2 s'' hs''⟩
    · exact absurd hp.1 (Nat.succ_ne_zero k)
end

section
variable {X : Cx} {pins : List (Addr × Obj)} {σ : L2.St} {H : Hp} {s : Shared}
theorem cloFrom_lookup {cells : List (Str × Addr)} {names : List (Str × NameKind)} {y : Str} {c : Addr} (h : (cloFrom cells names []).lookup y = some c) (hf : ∀ n, (n, NameKind.free) ∈ names → ∃ c, cells.lookup n = some c) : cells.lookup y = some c ∧ (y, NameKind.free) ∈ names := by
  rcases cloFrom_mem (PySem.mem_of_lookup h) with z | ⟨h1, h2⟩
  · cases z
  · obtain ⟨c', e⟩ := hf y h1
    rw [e] at h2
    subst h2
    exact ⟨e, h1⟩
/-- the generator's frame at its start -/
theorem gen_start {scope : Scope} {x : Str} {i : Nat} {code : Value} {A : Around} {fp : List Addr} {go : Obj} {itv : Value} {h' : Heap} {g' : Array GenState} {t' : Nat} (I : Inv X pins σ H s) (S : GenS X.env scope x) (hN : X.N.Nodup) (hi : X.N[i]? = some x)
    (huniq : ∀ y ∈ scope.names, scope.names.lookup y.1 = some y.2) (hdot : (".0" : Str) ∉ X.N) (honly : ∀ y ∈ scope.names, y.2 = .local → y.1 = x ∨ y.1 = ".0")
    (hAh : X.calm = true → A.handled = none) (hAf : A.frames = some (genEnv scope (cloFrom X.env.cells scope.names []) s.heap.objs.size code builtinsNs X.env :: X.stack))
    (hfp : ∀ b ∈ fp, FpOk X pins H b ∧ b < s.heap.objs.size) (hn : h'.Ns s.heap.objs.size (fun y => if y = ".0" then some itv else none)) (hk : ∀ b o, s.heap.get? b = some o → h'.get? b = some o) (hsz : h'.objs.size = s.heap.objs.size + 1)
    (hgd : ∀ v, go.data ≠ .cell v) (hgf : go.isFreed = false) (hfv : ∀ y ∈ scope.names, y.2 = .free → X.env.scope.names.lookup y.1 = some .cell ∨ X.env.scope.names.lookup y.1 = some .free) (hg : AllBare g') :
    Inv (gcx X s H A (genEnv scope (cloFrom X.env.cells scope.names []) s.heap.objs.size code builtinsNs X.env) fp [(h'.objs.size, go)]) [] (σ.set i none) H { s with heap := h'.push go, gens := g', toks := t' } := by
  have hfree : ∀ n, (n, NameKind.free) ∈ scope.names → ∃ c, X.env.cells.lookup n = some c := fun n hm => S.free (n, .free) hm rfl
  have kp : ∀ b o, s.heap.get? b = some o → (h'.push go).get? b = some o := fun b o e => Heap.get?_push_of_some _ (hk b o e)
  have cm : ∀ {y c}, (cloFrom X.env.cells scope.names []).lookup y = some c → X.env.cells.lookup y = some c ∧ (y, NameKind.free) ∈ scope.names := fun {y c} e => cloFrom_lookup e hfree
  have clt : ∀ {y c}, X.env.cells.lookup y = some c → c < s.heap.objs.size := fun {y c} e => by
    obtain ⟨w, z⟩ := I.cell _ _ e
    exact z.lt
  have kindIs : ∀ {y : Str} {k : NameKind}, scope.names.lookup y = some k → (y, k) ∈ scope.names := fun {y k} e => PySem.mem_of_lookup e
  refine ⟨⟨I.ok.mod, S.kind, I.ok.glob, rfl, Nat.le_refl _, fun y z c h1 h2 => I.ok.inj y z c (cm h1).1 (cm h2).1, fun y hy => ?_, fun y c hf _ => (Bool.noConfusion hf), hAh, hAf, .inr ⟨rfl, rfl⟩, fun b hb => ⟨Nat.ne_of_lt (hfp b hb).2, fun y c e => (hfp b hb).1.2.2.2.2.1 y c (cm e).1⟩,
    fun b o e => I.bs b o e, Nat.le_trans I.ok.bsz I.sz, fun b o e hb => ?_, fun b hb hm => ?_, I.stack, I.stkFree⟩, rfl, hg, Un.kept kp, ⟨_, hn.push _, fun j y v e1 e2 e3 => ?_⟩, fun y c e => ?_, ?_, fun y c e => I.freeC y c (cm e).1, fun p hp => ?_, I.hok.kept kp, ?_⟩
  · rcases hy with hy | hy
    · exact absurd rfl (S.cell _ (kindIs hy))
    · have hm := kindIs hy
      obtain ⟨c, hc⟩ := mem_lookup (cloFrom_has (cells := X.env.cells) (acc := []) hm)
      exact ⟨c, hc⟩
  · obtain ⟨o', e', _⟩ : ∃ o', s.heap.get? b = some o' ∧ True := ⟨o, I.bk b o e, trivial⟩
    rcases (hfp b hb).1.2.2.2.1 with z | z
    · exact I.ok.noex b o e z
    · exact absurd (Nat.lt_of_lt_of_le (Heap.lt_size e) (Nat.le_trans I.ok.bsz z)) (Nat.lt_irrefl _)
  · rcases List.mem_cons.mp (I.stkSub b hm) with z | z
    · exact (hfp b hb).1.2.1 z
    · exact (hfp b hb).1.2.2.1 z
  · have hne : j ≠ i := fun z => by
      subst z
      by_cases hl : j < σ.length
      · rw [List.getElem?_set_self hl] at e2; cases e2
      · rw [List.getElem?_eq_none (by simpa using hl)] at e2; cases e2
    rw [List.getElem?_set_ne (Ne.symm hne)] at e2
    have e3 : scope.names.lookup y = some .local ∨ scope.names.lookup y = some .cell ∨ scope.names.lookup y = some .free := e3
    rcases e3 with e3 | e3 | e3
    · rcases honly _ (kindIs e3) rfl with z | z
      · exact absurd (nodup_ix hN e1 (by rw [show y = x from z]; exact hi)) hne
      · exact absurd (List.mem_of_getElem? e1) (by rw [show y = ".0" from z]; exact hdot)
    · exact absurd rfl (S.cell _ (kindIs e3))
    · have hm := kindIs e3
      obtain ⟨c, hc⟩ := hfree _ hm
      obtain ⟨m, hns, hl⟩ := I.loc
      have hv : Vis X.env.scope y := .inr (hfv _ hm rfl)
      obtain ⟨u, ru, l⟩ := hl j y v e1 e2 hv
      have hkl : ∀ k, X.env.kindOf y = some k → k = .cell ∨ k = .free := fun k q => by
        rcases hfv _ hm rfl with z | z
        · have q' : X.env.scope.names.lookup y = some k := q
          rw [z] at q'; cases q'; exact .inl rfl
        · have q' : X.env.scope.names.lookup y = some k := q
          rw [z] at q'; cases q'; exact .inr rfl
      refine ⟨u, ru, .inr ?_⟩
      rcases l with ⟨q, _⟩ | ⟨_, c', hc', o, ho, hd⟩
      · rcases hkl _ q with z | z <;> cases z
      · rw [hc] at hc'
        cases hc'
        obtain ⟨c2, hc2⟩ := mem_lookup (cloFrom_has (cells := X.env.cells) (acc := []) hm)
        obtain ⟨q1, _⟩ := cm hc2
        rw [hc] at q1
        cases q1
        exact ⟨.inr e3, c, hc2, o, kp _ _ ho, hd⟩
  · obtain ⟨v, z⟩ := I.cell _ _ (cm e).1
    obtain ⟨o, e1, e2⟩ := z
    exact ⟨v, o, kp _ _ e1, e2⟩
  · exact I.hok.fresh (Nat.le_refl _)
  · have e : p = (h'.objs.size, go) := by simpa using (show p ∈ [(h'.objs.size, go)] ++ ([] : List (Addr × Obj)) from hp)
    subst e
    refine ⟨Heap.get?_push_size _ hgf, I.hok.fresh (by rw [hsz]; exact Nat.le_succ _), ?_, ?_, hgd⟩
    · show h'.objs.size ≠ s.heap.objs.size
      rw [hsz]; exact Nat.succ_ne_self _
    · intro hm
      have q : h'.objs.size ∈ frs X.stack := hm
      rcases List.mem_cons.mp (I.stkSub _ q) with z | z
      · exact absurd I.lt (by rw [← z, hsz]; exact Nat.not_lt.mpr (Nat.le_succ _))
      · exact I.nofs (by rw [hsz]; exact Nat.le_succ _) z
  · rw [List.length_set]; exact I.len
end
/-- all(test for x in e): W by the turn and the heap -/
def tAllG (P : Addr) (i : Nat) (wi : TI) (el : TE) : TE := fun σ H Q => wi σ H fun J H1 => TabG H1 P ∧ ∃ (N : Nat) (W : Nat → Hp → Prop), (∀ H2, Tabbed P H1 H2 → W 0 H2) ∧
  (∀ j H2, j < N → W j H2 → J.go j H2 ∧ ∀ x H3, J.yld j H2 x H3 → el ((σ.set i none).set i (some x)) H3 fun y H4 => y = .bl true ∧ W (j + 1) H4) ∧ ∀ H2, W N H2 → J.stop N H2 ∧ Q (.bl true) H2
/-- the generator expression's scope within the def's -/
structure GenOk (N : List Str) (sc scope : Scope) (x : Str) : Prop where
  kind : scope.kind = .function
  co : scope.isCoroutine = false
  cell : ∀ y ∈ scope.names, y.2 ≠ .cell
  dot : scope.names.lookup (".0" : Str) = some NameKind.local
  loc : scope.names.lookup x = some .local
  uniq : ∀ y ∈ scope.names, scope.names.lookup y.1 = some y.2
  nodot : (".0" : Str) ∉ N
  only : ∀ y ∈ scope.names, y.2 = .local → y.1 = x ∨ y.1 = ".0"
  free : ∀ y ∈ scope.names, y.2 = .free → sc.names.lookup y.1 = some .cell ∨ sc.names.lookup y.1 = some .free
section
variable {X : Cx}
theorem GenOk.s {scope : Scope} {x : Str} (G : GenOk X.N X.env.scope scope x) (ok : X.Ok) : GenS X.env scope x :=
  ⟨G.kind, G.co, G.cell, G.dot, G.loc, fun y hy e => by
    rcases G.free y hy e with z | z
    · exact ok.has _ (.inl z)
    · exact ok.has _ (.inr z)⟩
theorem pe_allG {c P : Addr} {elt iter : Expr} {x : Str} {px p pos gpos : Pos} {scope : Scope} {i k : Nat} {wi : TI} {el : TE}
    (hr : Room k X.A) (hc : X.calm = true) (hg : Gl X "all") (hm : X.mg "all" = none) (TB : TabB X.base X.mg c P) (hcode : X.env.code = .ref c) (hN : X.N.Nodup) (hi : X.N[i]? = some x) (G : GenOk X.N X.env.scope scope x)
    (hiter : PI X (.Name x px) iter wi)
    (he : ∀ (s : Shared) (H : Hp) (C : Addr) (code : Value) (fp : List Addr) (pn : List (Addr × Obj)), PE (gcx X s H (X.A.in1.in1.deeper (genEnv scope (cloFrom X.env.cells scope.names []) C code builtinsNs X.env)) (genEnv scope (cloFrom X.env.cells scope.names []) C code builtinsNs X.env) fp pn) elt el)
    (hs : ∀ v, genFold iter X.env v = pure v := by intro _; rfl)
    (hst : starEach [.GeneratorExp elt [⟨.Name x px, iter, [], 0⟩] scope gpos] X.env = (false, eval (.GeneratorExp elt [⟨.Name x px, iter, [], 0⟩] scope gpos) X.env) :: starEach [] X.env := by rfl) :
    PE X (.Call (.Name "all" p) [.GeneratorExp elt [⟨.Name x px, iter, [], 0⟩] scope gpos] [] pos) (tAllG P i wi el) := by
  refine ⟨fun pins s σ H Q I h => ?_⟩
  have S := G.s I.ok
  refine wpAny_Call_Name_kw (ld_blt I hg hm boot_all ?_)
  refine PyProof.Rows.callWith_builtin1 ?_ hst (by rfl)
  rw [hst]
  show wpAny _ _ (spliced ((false, eval (.GeneratorExp elt [⟨.Name x px, iter, [], 0⟩] scope gpos) X.env) :: backTo pos (starEach [] X.env))) _ _ s
  refine Calls.spliced_cons ?_
  refine wpAny_GeneratorExp_make S.co (closure_ok S.free) S.cell S.dot S.kind (by have := hr.dp; omega) ?_ hs
  refine thn (hiter.run pins s σ H _ I h) fun xv s1 hx => thn hx fun itv s2 h2 => ?_
  obtain ⟨it, fp, tn, J, H1, eit, I2, T, st2, f2, ⟨ps, hP, ht⟩, N, W, w0, turn, stop⟩ := h2
  subst eit
  have hPs : s2.heap.get? P = some { cls := .none, data := .fields ps } := I2.hok P _ hP
  have cd : PySem.W.CodeHd s2.heap c P := TB.code.keeps fun b u e => I2.bk b u e
  refine ⟨I2.nolimit, ?_⟩
  have hcP : cStatics ≠ P := fun e => by
    obtain ⟨_, hns, _⟩ := I2.nolimit
    obtain ⟨o', es, ep, ho, hd, _⟩ := hns
    rw [e, hPs] at ho
    cases ho
    cases hd
  have cont : ∀ (code : Value) (h3 : Heap) (tk : Nat) (ps' : Array Value), Heap.ExtBut P s2.heap h3 → s2.heap.objs.size ≤ h3.objs.size → h3.get? P = some { cls := .none, data := .fields ps' } → (∃ more, ps' = ps ++ more) → TriplesOk ps'.toList →
      wpAny (model X.prog X.w) X.A (builtinsFor X.env.globals X.env.builtins) (fun bi s₄ =>
        ∀ h' : Heap, h'.Ns s₄.heap.objs.size (fun y => if y = ".0" then some (.ref it) else none) → Heap.SameBut s₄.heap.objs.size (s₄.heap.push { cls := .type "frame", data := .dict #[] }) h' →
          wpAny (model X.prog X.w) X.A (spliced (backTo pos (starEach [] X.env))) (fun vs s' => wpAny (model X.prog X.w) X.A (call (.builtin "all") (Value.ref h'.objs.size :: vs)) (EP X pins σ Q) X.xe s') X.xe { s₄ with
            gens := s₄.gens.push (.fresh (.compStart (.GeneratorExp elt [⟨.Name x px, iter, [], 0⟩] scope gpos) 0 (.ref it) .none (genEnv scope (cloFrom X.env.cells scope.names []) s₄.heap.objs.size code bi X.env))),
            toks := s₄.toks + 1 + 1 + 1,
            heap := h'.push { cls := .type "generator", data := .fields #[.int s₄.gens.size 0, .str "<genexpr>" (s₄.toks + 1), .str (X.env.qual ++ "<genexpr>") (s₄.toks + 1 + 1)] } }) X.xe { s2 with heap := h3, toks := tk } := by
    intro code h3 tk ps' hx hsz hP3 hmore ht3
    obtain ⟨more, em⟩ := hmore
    subst em
    obtain ⟨bm, ob, e1, e2, e3, e4, e5, e6, e7, e8⟩ := TB.bm
    have keep3 : ∀ b u, b ≠ P → s2.heap.get? b = some u → h3.get? b = some u := fun b u hb e => hx b u hb e
    refine wpAny_builtinsFor (m := X.mg) (by rw [I2.ok.glob]; exact (I2.mod.glob.keeps I2.bk).extBut hx TB.gP) e1 e2 (keep3 _ _ e4 (I2.bk _ _ e5)) e6 e7 e8 ?_
    have I4 : Inv X pins σ (upd H1 P (.tbl (ps ++ more))) { s2 with heap := h3, toks := tk } := inv_tab (g' := s2.gens) (d' := s2.drawn) I2 hP keep3 hP3 I2.bare
    have tb4 : Tabbed P H1 (upd H1 P (.tbl (ps ++ more))) := ⟨⟨ps ++ more, upd_same, ht3⟩, fun b hb => upd_ne hb⟩
    generalize hs4 : ({ s2 with heap := h3, toks := tk } : Shared) = s4 at I4 ⊢
    generalize hH4 : upd H1 P (.tbl (ps ++ more)) = H4 at I4 tb4
    have h43 : s4.heap = h3 := by rw [← hs4]
    intro h' hns hsb
    have hk : ∀ b o, s4.heap.get? b = some o → h'.get? b = some o := fun b o e => hsb.extBut b o (Nat.ne_of_lt (Heap.lt_size e)) (Heap.get?_push_of_some _ e)
    have hsz' : h'.objs.size = s4.heap.objs.size + 1 := by rw [hsb.1, Heap.size_push]
    have fpP : ∀ b ∈ fp, b ≠ P := fun b hb z => by
      have q := (f2 b hb).1
      rw [z, hP] at q; cases q
    have fsz : ∀ b ∈ fp, b < s2.heap.objs.size := fun b hb => by
      obtain ⟨o, e, _⟩ := T.obj _ _ st2 b hb
      exact Heap.lt_size e
    have f4 : ∀ b ∈ fp, FpOk X pins H4 b ∧ b < s4.heap.objs.size := fun b hb => by
      obtain ⟨g1, g2⟩ := f2 b hb
      refine ⟨⟨?_, g2⟩, by rw [h43]; exact Nat.lt_of_lt_of_le (fsz b hb) hsz⟩
      rw [tb4.2 b (fpP b hb)]
      exact g1
    have st4 : tn 0 s4.heap := by
      rw [h43]
      exact T.keep _ _ _ st2 fun b hb o e => keep3 b o (fpP b hb) e
    have bare5 : AllBare (s4.gens.push (.fresh (.compStart (.GeneratorExp elt [⟨.Name x px, iter, [], 0⟩] scope gpos) 0 (.ref it) .none (genEnv scope (cloFrom X.env.cells scope.names []) s4.heap.objs.size code builtinsNs X.env)))) := AllBare.push I4.bare rfl
    have hAf : (X.A.in1.in1.deeper (genEnv scope (cloFrom X.env.cells scope.names []) s4.heap.objs.size code builtinsNs X.env)).frames = some (genEnv scope (cloFrom X.env.cells scope.names []) s4.heap.objs.size code builtinsNs X.env :: X.stack) := by
      show Option.map _ X.A.frames = _
      rw [I4.ok.frames]
      rfl
    have I5 := gen_start (A := X.A.in1.in1.deeper (genEnv scope (cloFrom X.env.cells scope.names []) s4.heap.objs.size code builtinsNs X.env)) (fp := fp) (itv := .ref it) (t' := s4.toks + 1 + 1 + 1)
      (go := { cls := .type "generator", data := .fields #[.int s4.gens.size 0, .str "<genexpr>" (s4.toks + 1), .str (X.env.qual ++ "<genexpr>") (s4.toks + 1 + 1)] }) (h' := h') I4 S hN hi G.uniq G.nodot G.only (fun z => I4.ok.hd z) hAf f4 hns hk hsz' (fun v q => by cases q) rfl G.free bare5
    have pe := he s4 H4 s4.heap.objs.size code fp [(h'.objs.size, { cls := .type "generator", data := .fields #[.int s4.gens.size 0, .str "<genexpr>" (s4.toks + 1), .str (X.env.qual ++ "<genexpr>") (s4.toks + 1 + 1)] })]
    generalize hce : genEnv scope (cloFrom X.env.cells scope.names []) s4.heap.objs.size code builtinsNs X.env = cenv at I5 pe bare5 hAf ⊢
    have ce1 : cenv.scope = scope := by rw [← hce]; rfl
    generalize hgo : ({ cls := .type "generator", data := .fields #[.int s4.gens.size 0, .str "<genexpr>" (s4.toks + 1), .str (X.env.qual ++ "<genexpr>") (s4.toks + 1 + 1)] } : Obj) = go at I5 pe ⊢
    have hGA : GAt (gcx X s4 H4 (X.A.in1.in1.deeper cenv) cenv fp [(h'.objs.size, go)]) fp tn W (σ.set i none) 0 { s4 with
            gens := s4.gens.push (.fresh (.compStart (.GeneratorExp elt [⟨.Name x px, iter, [], 0⟩] scope gpos) 0 (.ref it) .none cenv)), toks := s4.toks + 1 + 1 + 1, heap := h'.push go } :=
      ⟨H4, I5, T.keep _ _ _ st4 fun b hb o e => Heap.get?_push_of_some _ (hk b o e), fun b hb => (f4 b hb).1.1, w0 _ tb4⟩
    refine Calls.spliced_nil ?_
    refine call_function_tree F.kind_all F.plain_all F.entry_all (F.args_all1 _) ?_
    unfold Builtin.«all»
    refine wpAny_bind (m := oneArg "all" _) (wpAny_pure ?_)
    have hig : ∀ hh : Heap, hh.get? h'.objs.size = some go → hh.IsGen h'.objs.size s4.gens.size := fun hh e => by
      subst hgo
      exact ⟨_, _, _, e, rfl, rfl, rfl⟩
    have hgf : go.isFreed = false := by rw [← hgo]; rfl
    refine wpAny_bind (wpAny_pyIter_gen (hig _ (Heap.get?_push_size _ hgf)) ?_)
    refine wpAny_pure ⟨plainId_quiet F.plain_all_loop _, ?_⟩
    refine all_loop (prog := X.prog) (w := X.w) (Y := gcx X s4 H4 (X.A.in1.in1.deeper cenv) cenv fp [(h'.objs.size, go)]) (fp := fp) (tn := tn) (W := W) (σ0 := σ.set i none) (N := N) (a := h'.objs.size) (g := s4.gens.size) rfl rfl hr.hd (by have := hr.dp; omega) ⟨go, List.mem_singleton.mpr rfl, hig⟩ (fun s' ⟨H6, I6, wN⟩ => ?c1)
      N 0 _ _ (Nat.sub_zero _) (Nat.zero_le _) hGA (Array.getElem?_push_size ..) fun s'' hs'' => ⟨rfl, ?c2⟩
    case c1 =>
      refine ⟨.bl true, H6, ?_, rfl, (stop H6 wN).2⟩
      exact (show Inv X pins σ H6 s' from by
        have I7 : Inv X pins σ H4 s4 := I4
        exact (I7.call' (ch := fp) I6.os I6.base I6.hok I6.bare fun b hb => ⟨(f4 b hb).1.2.2.2.1, (f4 b hb).1.2.1, (f4 b hb).1.2.2.2.2.1, (f4 b hb).1.2.2.2.2.2⟩))
    case c2 =>
      refine seg_start (Y := gcx X s4 H4 (X.A.in1.in1.deeper cenv) cenv fp [(h'.objs.size, go)]) (J := J) (i := i) (σ := σ) rfl rfl rfl hc hN hi ?_ ?_ rfl (fun b hb => hb) (fun b hb p hp => ?_) (fun _ _ z => z) T pe turn (fun H2 w2 => (stop H2 w2).1) s'' s'' hs''
      · show cenv.scope.names.lookup x = some .local
        rw [ce1]; exact S.loc
      · show cenv.scope.isCoroutine = false
        rw [ce1]; exact S.co
      · have e : p = (h'.objs.size, go) := List.mem_singleton.mp hp
        rw [e]
        exact Nat.ne_of_gt (Nat.lt_of_lt_of_le (f4 b hb).2 (by rw [hsz']; exact Nat.le_succ _))
  cases hf : codeAmong gpos ps.toList with
  | none =>
    refine wpAny_genexprCodeX hcode (cd.code hPs ht) (cd.tab hPs) hf fun c' h' tk hx hge hlt hco' _ htab' _ => ?_
    obtain ⟨o1, vs, f1, tf, fl, tg, inF, tx, tt, op, _, _, _, _, _, _, _, _, _, htr, _⟩ := hco'
    exact cont _ h' tk _ hx (Nat.le_trans hge (Nat.le_of_lt hlt)) htab'.2 ⟨_, rfl⟩ htr
  | some cv =>
    refine wpAny_genexprCode_hit hcode (cd.code hPs ht) hf ?_
    exact cont cv s2.heap s2.toks ps (Heap.ExtBut.refl _ _) (Nat.le_refl _) hPs ⟨#[], by simp⟩ ht
end
end GA

namespace ET
open PySem PySem.Spec PyProof.Rows L2
theorem meets_enumerate_newB1 {v : Value} {o : Obj} {H : Heap → Prop} (B : Begins v o H) :
    Meets (Builtin.«enumerate.__new__» ⟨[.type "enumerate", v], []⟩) (fun _ R s => H s.heap ∧
      R (.ok (.ret (.ref (s.heap.push o).objs.size))) { s with heap := (s.heap.push o).push { cls := .type "enumerate", data := .fields #[.none, .bool false, .ref s.heap.objs.size, rawInt 0, .none, .none] } }) :=
  .of_wp fun prog w A R s h => by
    obtain ⟨hp, g, d, tk, os⟩ := s; obtain ⟨h1, h⟩ := h
    have hsub := sub_enumerate
    have q1 : ∀ {A' : Around} {E : Value → Shared → Prop} {Q : Value → Shared → Prop}, Q (.ref hp.objs.size) ⟨hp.push o, g, d, tk, os⟩ → wpAny (model prog w) A' (pyIter v) Q E ⟨hp, g, d, tk, os⟩ :=
      fun q => B.iter prog w _ _ ⟨hp, g, d, tk, os⟩ _ h1 q
    wp_walk using q1
    refine wpAny_stack_any fun st => wpAny_pure ?_
    split
    · rename_i c _ _ _ _ _
      cases (c == Value.type "enumerate")
      · wp_walk using q1
        exact ⟨_, rfl, h⟩
      · wp_walk using q1
        exact ⟨_, rfl, h⟩
    · wp_walk using q1
      exact ⟨_, rfl, h⟩
section
variable {prog : Program} {w : World} {A : Around} {E : Value → Shared → Prop} {s : Shared}
theorem call_enumerate_tuple {l : Addr} {items : Array Value} {Q : Value → Shared → Prop} (hL : s.heap.IsTuple l items)
    (h : ∀ h', IsEnum h' (s.heap.objs.size + 1) s.heap.objs.size 0 .none → h'.IsTupleIter s.heap.objs.size l 0 → h'.objs.size = s.heap.objs.size + 2 →
      (∀ b o, s.heap.get? b = some o → h'.get? b = some o) → Q (.ref (s.heap.objs.size + 1)) { s with heap := h' }) :
    wpAny (model prog w) A (call (.type "enumerate") [.ref l]) Q E s := by
  refine callType_new F.called_enumerate (by decide) (F.typeCall_enumerate_1 _) (F.newCall_enumerate_1 _) (fun obj => F.args_object_init_2 obj _) F.entry_enumerate_new
    (meets_enumerate_newB1 (begins_tuple l items)) ⟨hL, ?_⟩
  have hz : (s.heap.push { cls := .type "tuple_iterator", data := .fields #[.ref l, .int 0 0] }).objs.size = s.heap.objs.size + 1 := Heap.size_push ..
  show _ ∧ _
  rw [hz]
  have he : IsEnum ((s.heap.push { cls := .type "tuple_iterator", data := .fields #[.ref l, .int 0 0] }).push
      { cls := .type "enumerate", data := .fields #[.none, .bool false, .ref s.heap.objs.size, rawInt 0, .none, .none] }) (s.heap.objs.size + 1) s.heap.objs.size 0 .none := by
    have := Heap.get?_push_size (s.heap.push { cls := .type "tuple_iterator", data := .fields #[.ref l, .int 0 0] })
      (o := { cls := .type "enumerate", data := .fields #[.none, .bool false, .ref s.heap.objs.size, rawInt 0, .none, .none] }) rfl
    rw [hz] at this; exact this
  refine ⟨⟨_, he, rfl⟩, h _ he ⟨_, Heap.get?_push_of_some _ (Heap.get?_push_size _ rfl), rfl, rfl⟩ (by rw [Heap.size_push, hz]) fun b o x => Heap.get?_push_of_some _ (Heap.get?_push_of_some _ x)⟩
end
/-- enumerate over a tuple -/
def IteT (K : PySem.W.Frag) (a : Addr) : It :=
  ⟨fun i H => ∃ (xs : List V) (x : V), SqT K H a xs ∧ xs[i]? = some x, fun i H v H' => ∃ T x, v = .ref T ∧ H T = none ∧ H' = upd H T (.tup [.int (i : Nat), x]) ∧ ∀ xs, SqT K H a xs → xs[i]? = some x, fun i H => ∃ xs : List V, SqT K H a xs ∧ xs.length ≤ i⟩
theorem turn_enumT {P : Program} {w : World} {K : PySem.W.Frag} {elts : List Expr} {kk : Nat} {tpos : Pos} (a e it : Addr) :
    Turn P w K (.Tuple elts kk tpos) (IteT K a) [e, it] e (fun i h => (∃ old, IsEnum h e it ((i : Nat) : Int) old) ∧ h.IsTupleIter it a i ∧ e ≠ it ∧ a ≠ e ∧ a ≠ it) where
  mem := by simp
  obj := fun i h st b hb => by
    obtain ⟨⟨old, he⟩, ⟨o, ho, hc, hd⟩, _⟩ := st
    have e' : b = e ∨ b = it := by simpa using hb
    rcases e' with z | z
    · rw [z]; exact ⟨_, he, fun v q => nomatch q⟩
    · rw [z]; exact ⟨o, ho, fun v q => by rw [hd] at q; cases q⟩
  keep := fun i h h' st k => let ⟨⟨old, he⟩, hi, hne⟩ := st; ⟨⟨old, k e (by simp) _ he⟩, hi.at fun o q => k it (by simp) o q, hne⟩
  item := by
    intro X hP hw hK hc i pins s σ H E I hf st hg
    subst hP hw hK
    obtain ⟨⟨old, he⟩, hit, hne, hae, hai⟩ := st
    obtain ⟨xs, x, hq, hx⟩ := hg
    obtain ⟨its, rv, p, hz⟩ := I.tuple hq
    obtain ⟨u, hu, ru⟩ := rv.get hx
    have hel : e < s.heap.objs.size := Heap.lt_size he
    have hil : it < s.heap.objs.size := by obtain ⟨_, q, _⟩ := hit; exact Heap.lt_size q
    have hlt : i < its.toArray.size := by simpa using (List.getElem?_eq_some_iff.mp hu).1
    have D := Draws.tuple (prog := X.prog) (w := X.w) (A := X.A.in1) (I.ok.hd hc) it a hai its.toArray
    refine wpAny_pyNext_enum_itemD D he ⟨hit, show s.heap.IsTuple a its.toArray from p⟩ hlt hne (by simp [hne, hae.symm]) fun x' h' tk hPx ho hit' hT hsz hk => ?_
    have ex : x' = u := by
      have q : its.toArray[i]? = some x' := hPx
      have q2 : its.toArray[i]? = some u := by simpa using hu
      rw [q2] at q
      exact (Option.some.inj q).symm
    subst ex
    refine ⟨_, rfl, wpAny_letOwnedTupleGo_enum (s := { s with heap := h', toks := tk + 1 }) ho fun h'' he' sb => ?_⟩
    have hT2 : h''.get? s.heap.objs.size = some { cls := .type "tuple", data := .seq #[.int i tk, x'] } := (sb.2 _ (Nat.ne_of_gt hel)).trans hT
    have new : ObjOk X.prog X.w (upd H s.heap.objs.size (.tup [.int (i : Nat), x])) h'' s.heap.objs.size (.tup [.int (i : Nat), x]) :=
      ⟨by show 2 ≤ sizeLine; decide, [.int i tk, x'], .cons ⟨_, rfl⟩ (.cons ru .nil), ⟨_, hT2, rfl, _, rfl⟩⟩
    have I1 : Inv X pins σ (upd H s.heap.objs.size (.tup [.int (i : Nat), x])) { s with heap := h'', toks := tk + 1 } :=
      I.turnedNew (ch := [e, it]) (fun b ob hb q => (sb.2 b (fun z => hb (by simp [z]))).trans (hk b ob (fun z => hb (by simp [z])) (fun z => hb (by simp [z])) q)) hf (Nat.le_refl _) new
    refine ⟨.ref s.heap.objs.size, _, I1, rfl, ⟨_, x, rfl, I.hok.fresh (Nat.le_refl _), rfl, fun ys hy => by rw [I.tuple_inj hy hq]; exact hx⟩, ⟨⟨x', ?_⟩, hit'.1.at fun o q => (sb.2 it (Ne.symm hne)).trans q, hne, hae, hai⟩, fun b hb => ?_⟩
    · have e1 : ((i + 1 : Nat) : Int) = (i : Int) + 1 := by omega
      rw [e1]; exact he'
    · have hb' : b < s.heap.objs.size := by
        have e' : b = e ∨ b = it := by simpa using hb
        rcases e' with z | z
        · rw [z]; exact hel
        · rw [z]; exact hil
      rw [upd_ne (Nat.ne_of_lt hb')]
      exact (hf b hb).1
  done := by
    intro X hP hw hK hc i pins s σ H E I hf st hg
    subst hP hw hK
    obtain ⟨⟨old, he⟩, hit, hne, hae, hai⟩ := st
    obtain ⟨xs, hq, hx⟩ := hg
    obtain ⟨its, rv, p, hz⟩ := I.tuple hq
    obtain ⟨f0, f1, f2, f3, f4, f5⟩ := hf it (by simp)
    have hl := rv.length
    have hT : s.TypeIs (.ref e) "enumerate" := ⟨_, he, rfl⟩
    unfold pyNext
    refine wpAny_bind (wpAny_attempt (wpAny_callSpecial?_slot (name := Str.ofString "__next__") hT F.slot_enumerate_next
      (wpAny_call_entry F.slot_enumerate_next hT F.entry_enumerate_next ?_ (F.args_enumerate_next_1 _))))
    show wpAny _ _ (field (.ref e) 2 >>= _) _ _ _
    refine wpAny_bind (wpAny_field he rfl (x := .ref it) rfl ?_)
    refine wpAny_bind (wpAny_nextOf_tuple_end (A := X.A.in1) (I.ok.hd hc) hit (show s.heap.IsTuple a its.toArray from p) (by simp; omega) fun h' x he' hx' => ?_)
    obtain ⟨o, ho, hc'⟩ := hx'
    refine wpAny_bind (wpAny_isInstance (T := "StopIteration") (b := true) ⟨o, ho, hc'⟩ isSubtype_stop ?_)
    exact wpAny_pure ⟨rfl, I.turned (t' := s.toks) (fun b o hb q => he' b o hb q) f0 f1 f3 f4 f5⟩
  self := fun A i s Q E st h => let ⟨⟨_, he⟩, _⟩ := st; wpAny_pyIter_enum he h

def iEnumT (K : PySem.W.Frag) (ta : TA) : TI := fun σ H R => ta σ H fun vs H1 => ∃ a xs, vs = [.ref a] ∧ SqT K H1 a xs ∧ R (IteT K a) H1
theorem pi_enumT {X : Cx} {e : Expr} {ta : TA} {p pos tpos : Pos} {elts : List Expr} {kk : Nat} (hg : Gl X "enumerate") (hm : X.mg "enumerate" = none) (ha : PA X [e] ta) (hs : starEach [e] X.env = [(false, eval e X.env)] := by rfl) :
    PI X (.Tuple elts kk tpos) (.Call (.Name "enumerate" p) [e] [] pos) (iEnumT X.K ta) := by
  refine ⟨fun pins s σ H R I h => ?_⟩
  refine Call_ (ld_blt I hg hm boot_enumerate (PyProof.Rows.callWith_type1 (thn (ha.run pos pins s σ H _ I h) fun us s1 ⟨vs, H1, I1, r1, q1⟩ => ?_) hs rfl))
  obtain ⟨a, xs, ex, hq, q⟩ := q1
  subst ex
  cases r1 with
  | cons r rr =>
    cases rr
    cases r
    obtain ⟨its, rv, p', hz⟩ := I1.tuple hq
    have hla : a < s1.heap.objs.size := p'.lt
    refine call_enumerate_tuple (show s1.heap.IsTuple a its.toArray from p') fun h' he hit hsz hk => wpAny_pyIter_enum he ?_
    have I2 : Inv X pins σ H1 { s1 with heap := h' } := I1.kept (t' := s1.toks) hk
    refine ⟨s1.heap.objs.size + 1, [s1.heap.objs.size + 1, s1.heap.objs.size], _, _, H1, rfl, I2, turn_enumT a (s1.heap.objs.size + 1) s1.heap.objs.size, ⟨⟨.none, he⟩, hit, Nat.succ_ne_self _, Nat.ne_of_lt (Nat.lt_succ_of_lt hla), Nat.ne_of_lt hla⟩, fun b hb => ?_, q⟩
    have e' : b = s1.heap.objs.size + 1 ∨ b = s1.heap.objs.size := by simpa using hb
    have hle : s1.heap.objs.size ≤ b := by
      rcases e' with z | z
      · rw [z]; exact Nat.le_add_right _ _
      · rw [z]; exact Nat.le_refl _
    exact I1.fpOk hle (I1.hok.fresh hle)
end ET

namespace R3
open PySem PySem.Spec PyProof.Rows L2
section
variable {K : Type} [DecidableEq K] {prog : Program} {w : World} {knd : HeapKind prog w K} {A : Around} {E : Value → Shared → Prop} {s : Shared}
theorem meetsPop1 {d b : Addr} {k : K} :
    MeetsIn prog w (Builtin.«dict.pop» ⟨[.ref d, .ref b], []⟩) (fun A R s => ∃ xs p, knd.room A.in1 ∧ knd.is s.heap k b ∧ s.heap.DictOfH knd d xs ∧ xs.length ≤ sizeLine ∧
      atKey xs k = some p ∧ ∀ h' tk, h'.DictOfH knd d (DT.dropH xs k) → Heap.SameBut d s.heap h' → R (.ok (.ret p.2)) { s with heap := h', toks := tk }) :=
  .of_wp fun A R s ⟨xs, p0, hu, hkey, hm, hsz, hp0, hsome⟩ => by
    obtain ⟨o, es, ep, ho, hc, hdat, he, his, hn⟩ := id hm
    have hes : es.size = xs.length := size_of_entries he
    have hpart : (keyPart (Value.ref b)).isSome = false := rfl
    unfold Builtin.«dict.pop»
    refine wpAny_bind ?_
    unfold Builtin.Dict.keyAndDefault
    refine wpAny_bind (wpAny_notOrdered_dict hm.typeIs ?_)
    show wpAny _ _ (pure (d, Value.ref b, none)) _ _ s
    refine wpAny_pure ?_
    simp only [hpart, Bool.false_eq_true, if_false]
    refine wpAny_bind (wpAny_dictEntries ho hdat (wpAny_bind (wpAny_pure ?_)))
    cases hem : es.isEmpty with
    | true =>
      have h0 : xs = [] := by
        have z : es.size = 0 := by simpa using hem
        exact List.length_eq_zero_iff.mp (by omega)
      rw [h0] at hp0
      cases hp0
    | false =>
      simp only [Bool.false_eq_true, if_false]
      refine wpAny_bind (DT.takeH hu hkey hm hsz (fun hno => ?_) fun p e hp hev h' hm' hs' => ?_)
      · rw [hp0] at hno
        cases hno
      · rw [hp0] at hp
        cases hp
        simp only [Option.isNone_some, Bool.false_eq_true, if_false]
        exact wpAny_bind (wpAny_letGo (wpAny_pure ⟨e.val, rfl, by rw [hev]; exact hsome h' _ hm' hs'⟩))
end
section
variable {X : Cx}
/-- d.pop(k), k there, d a dict by tuples -/
def rPopT1 : V → List V → Hp → VK → Prop := fun x xs H Q => ∃ (a : Addr) (kvs : List (List L2.Key × V)) (k : List L2.Key) (b : Addr) (v : V), x = .ref a ∧ xs = [.ref b] ∧ H a = some (.dT kvs) ∧ H b = some (.tup (k.map kV)) ∧
  valV kvs k = some v ∧ Q v (upd H a (.dT (dropK kvs k)))
theorem mt_popT1 (hu : X.A.units + 1 < cLine) : MtR X "dict.pop" rPopT1 := by
  intro pins s σ H x xs v us Q I rx rxs h
  obtain ⟨a, kvs, k, b, v0, rfl, rfl, ha, hb, hv, q1⟩ := h
  cases rx
  obtain ⟨u1, rfl, r1⟩ := vals1 rxs
  cases r1
  obtain ⟨z, hd, xs', rel, dd⟩ := dt_of I.hok ha
  have hz : xs'.length ≤ sizeLine := by rw [← Paired.length rel]; exact z
  have r := rel.val k
  rw [hv] at r
  obtain ⟨p, ep, rv⟩ : ∃ p, atKey xs' k = some p ∧ RelV v0 p.2 := by
    cases e : atKey xs' k with
    | none =>
      rw [e] at r
      exact (show False from r).elim
    | some p =>
      rw [e] at r
      exact ⟨p, rfl, r⟩
  refine call_meetsIn PySem.F.slot_dict_pop dd.typeIs PySem.F.entry_dict_pop (PySem.F.args_dict_pop_2 _ _) (meetsPop1 (knd := tupleKind (mixKind X.prog X.w)) (k := k))
    ⟨xs', p, tupleKind_room_in1 hu, key_of I.hok hb, dd, hz, ep, fun h' tk dd' hs => ?_⟩
  obtain ⟨o, es, ep2, hq, h2, h3, h4, _, h5⟩ := dd'
  have I2 : Inv X pins σ (upd H a (.dT (dropK kvs k))) { s with heap := h', toks := tk } :=
    d_write I (by rw [ha]; exact True.intro) hs ⟨o, hq⟩ ⟨Nat.le_trans (dropK_le kvs k) z, hd, _, (DX.KT_drop k rel).keeps (fun c ys ec => (by rw [upd_ne (ne_of ec ha (fun z => nomatch z))]; exact ec)), o, es, ep2, hq, h2, h3, h4, h5⟩
  show EP X pins σ Q p.2 _
  exact ⟨v0, _, I2, rv, q1⟩

/-- l.count(True), l a list of True, False -/
def eqT (u : Value) : Bool := match u with
  | .bool b => b
  | _ => false
def rCntB (K : PySem.W.Frag) : V → List V → Hp → VK → Prop := fun x xs H Q => ∃ (p : Addr) (bs : List Bool), x = .ref p ∧ xs = [.bl true] ∧ SqL K H p (bs.map V.bl) ∧ Q (.int (bs.count true : Nat)) H
theorem mt_countB : MtR X "list.count" (rCntB X.K) := by
  intro pins s σ H x xs v us Q I rx rxs h
  obtain ⟨p, bs, rfl, rfl, hs, q⟩ := h
  cases rx
  obtain ⟨u, rfl, ru⟩ := rxs.one
  obtain rfl : u = Value.bool true := ru
  obtain ⟨its, rv, ⟨⟨cls, dd, data, sl⟩, n, ho, hc, hdn, hd⟩, hlen⟩ := I.list hs
  simp only at hc hd
  subst hc hd
  have hi : its = bs.map Value.bool := Vals.bls rv
  subst hi
  refine call_meets PySem.F.slot_list_count ⟨_, ho, rfl⟩ PySem.F.entry_list_count (PySem.F.args_list_count_2 _ _)
    (SeqAt.list_countAt p (bs.map Value.bool).toArray n dd sl (.bool true) eqT) ⟨ho, fun y hy => ?_, ?_⟩
  · have hy' : y ∈ bs.map Value.bool := by simpa using hy
    obtain ⟨b, _, rfl⟩ := List.mem_map.mp hy'
    have e := SeqAt.EqAt.bool_bool (A := X.A.in1) (s := s) b true
    have e2 : (b == true) = eqT (.bool b) := by cases b <;> rfl
    rw [e2] at e
    exact e
  · have ec : (bs.map Value.bool).toArray.toList.countP eqT = bs.count true := by
      show (bs.map Value.bool).countP eqT = bs.count true
      rw [List.countP_map]
      show bs.countP (fun b => eqT (.bool b)) = bs.countP (· == true)
      congr 1
      funext b
      cases b <;> rfl
    refine ⟨.int (bs.count true : Nat), H, I.tok _, ⟨s.toks, ?_⟩, q⟩
    show Value.int (((bs.map Value.bool).toArray.toList.countP eqT : Nat) : Int) s.toks = Value.int ((bs.count true : Nat) : Int) s.toks
    rw [ec]

/-! ### sorted(d), d a dict whose keys are pairs of ints -/
def kH (H : Hp) (t : Addr) : Int × Int := match H t with
  | some (.tup [.int i, .int j]) => (i, j)
  | _ => (0, 0)
def rfA : Value → Addr
  | .ref a => a
  | _ => 0
def rfV : V → Addr
  | .ref a => a
  | _ => 0
abbrev pk (p : Int × Int) : List L2.Key := [Sum.inl p.1, Sum.inl p.2]
def IsP (H : Hp) (y : V) (q : Int × Int) : Prop := ∃ t, y = V.ref t ∧ H t = some (.tup [.int q.1, .int q.2])
def rSortDT : List V → Hp → VK → Prop := fun vs H Q => ∃ (a : Addr) (kvs : List (List L2.Key × V)) (ps : List (Int × Int)), vs = [V.ref a] ∧ H a = some (.dT kvs) ∧ kvs.map (·.1) = ps.map pk ∧
  ∀ (l : Addr) (ys : List V) (qs : List (Int × Int)), ps.Nodup → qs.Perm ps → qs.Pairwise (fun p q => SrtO.lexB q p = false) → Paired (IsP H) ys qs → H l = none → Q (.ref l) (upd H l (.lst ys))
theorem pk_inj {p q : Int × Int} (h : pk p = pk q) : p = q := by
  obtain ⟨a, b⟩ := p
  obtain ⟨c, d⟩ := q
  simp only [pk, List.cons.injEq, Sum.inl.injEq, and_true] at h
  rw [h.1, h.2]
theorem kH_of {H : Hp} {t : Addr} {q : Int × Int} (h : H t = some (.tup [.int q.1, .int q.2])) : kH H t = q := by
  unfold kH
  rw [h]
theorem kt_addr {H : Hp} : ∀ {kvs : List (List L2.Key × V)} {xs : List (List L2.Key × Addr × Value)} {ps : List (Int × Int)}, Paired (fun (p : List L2.Key × V) (q : List L2.Key × Addr × Value) => p.1 = q.1 ∧ H q.2.1 = some (.tup (p.1.map kV)) ∧ RelV p.2 q.2.2) kvs xs → kvs.map (·.1) = ps.map pk →
    Paired (IsP H) (xs.map fun x => V.ref x.2.1) ps
  | _, _, [], .nil, _ => .nil
  | _, _, _ :: _, .nil, h => by simp at h
  | _, _, [], .cons _ _, h => by simp at h
  | _, _, p :: ps, .cons r t, h => by
    simp only [List.map_cons, List.cons.injEq] at h
    refine .cons ⟨_, rfl, ?_⟩ (kt_addr t h.2)
    rw [r.2.1, h.1]
    rfl
theorem paired_of_map {H : Hp} : ∀ {ys : List V}, (∀ y ∈ ys, ∃ q, IsP H y q) → Paired (IsP H) ys (ys.map fun y => kH H (rfV y))
  | [], _ => .nil
  | y :: ys, h => by
    obtain ⟨q, t, e, ht⟩ := h y List.mem_cons_self
    subst e
    refine .cons ⟨t, rfl, ?_⟩ (paired_of_map fun y hy => h y (List.mem_cons_of_mem _ hy))
    show H t = some (.tup [.int (kH H t).1, .int (kH H t).2])
    rw [kH_of ht, ht]
theorem map_of_paired {H : Hp} : ∀ {ys : List V} {ps : List (Int × Int)}, Paired (IsP H) ys ps → (ys.map fun y => kH H (rfV y)) = ps
  | _, _, .nil => rfl
  | _, _, .cons ⟨t, e, ht⟩ r => by
    subst e
    rw [List.map_cons, map_of_paired r]
    show kH H t :: _ = _
    rw [kH_of ht]
theorem each_of_paired {H : Hp} : ∀ {ys : List V} {ps : List (Int × Int)}, Paired (IsP H) ys ps → ∀ y ∈ ys, ∃ q, IsP H y q
  | _, _, .nil, y, hy => by simp at hy
  | _, _, .cons r t, y, hy => by
    rcases List.mem_cons.mp hy with e | hy
    · exact ⟨_, e ▸ r⟩
    · exact each_of_paired t y hy
theorem cr_sortedDT (hc : X.calm = true) : CallR X (.builtin "sorted") rSortDT := by
  intro pins s σ H vs us Q I r h
  obtain ⟨a, kvs, ps, rfl, ha, hps, q⟩ := h
  obtain ⟨u, rfl, ru⟩ := vals1 r
  obtain rfl : u = Value.ref a := ru
  obtain ⟨z, hd, xs, rel, o, es, ep, ho, hx, hdat, he, _, hn⟩ := dt_of I.hok ha
  have hl : xs.length = kvs.length := (Paired.length rel).symm
  have hes : es.size = xs.length := by rw [← Array.length_toList, he, List.length_map]
  have hz : es.size ≤ sizeLine := by rw [hes, hl]; exact z
  have hks := kt_addr rel hps
  have nd : ps.Nodup := by
    have e1 : xs.map (·.1) = kvs.map (·.1) := by
      have : ∀ {kvs : List (List L2.Key × V)} {xs : List (List L2.Key × Addr × Value)}, Paired (fun (p : List L2.Key × V) (q : List L2.Key × Addr × Value) => p.1 = q.1 ∧ H q.2.1 = some (.tup (p.1.map kV)) ∧ RelV p.2 q.2.2) kvs xs → xs.map (·.1) = kvs.map (·.1) := by
        intro kvs xs r
        induction r with
        | nil => rfl
        | cons r _ ih => rw [List.map_cons, List.map_cons, ih, r.1]
      exact this rel
    rw [e1, hps] at hn
    exact (List.pairwise_map.mp hn).imp fun hne e => hne (by rw [e])
  refine Calls.call_function_entry PyProof.Rows.kind_sorted PyProof.Rows.plain_sorted PyProof.Rows.entry_sorted (PyProof.Rows.args_sorted1 _) ?_
  unfold Builtin.«sorted»
  refine wpAny_bind (m := checkCount "sorted" 1 1 _) (wpAny_pure ?_)
  refine wpAny_bind (PySem.W.kdu_collect (A := X.A.in1) (KdlSrc.rawDict (es := es) (ep := ep) hd) (I.ok.hd hc) ⟨o, ho, hx, hdat⟩ hz fun h' tk acc hk hacc => ?_)
  have hkey : ∀ i (hi : i < es.size) , es[i].key = Value.ref ((xs.map fun x => x.2.1).getD i 0) := fun i hi => by
    have e1 : es.toList[i]? = some es[i] := by rw [Array.getElem?_toList]; exact Array.getElem?_eq_getElem hi
    rw [he, List.getElem?_map] at e1
    cases e2 : xs[i]? with
    | none => rw [e2] at e1; cases e1
    | some x =>
      rw [e2] at e1
      have e3 := (Option.some.inj e1).symm
      rw [e3]
      show Value.ref x.2.1 = _
      rw [List.getD_eq_getElem?_getD, List.getElem?_map, e2]
      rfl
  have hal : acc.toList = xs.map fun x => Value.ref x.2.1 := by
    refine List.ext_getElem? fun j => ?_
    by_cases hj : j < es.size
    · have hja : j < acc.size := by rw [hacc.1]; exact hj
      have e1 : acc[j]? = some acc[j] := Array.getElem?_eq_getElem hja
      obtain ⟨hi, e2⟩ := hacc.2 j _ e1
      rw [Array.getElem?_toList, e1, e2, hkey j hi, List.getElem?_map]
      have hjx : j < xs.length := by rw [← hes]; exact hj
      rw [List.getElem?_eq_getElem hjx, List.getD_eq_getElem?_getD, List.getElem?_map, List.getElem?_eq_getElem hjx]
      rfl
    · rw [List.getElem?_eq_none (by rw [Array.length_toList, hacc.1]; omega), List.getElem?_eq_none (by rw [List.length_map, ← hes]; omega)]
  have I1 : Inv X pins σ H { s with heap := h', toks := tk } := I.kept hk
  have hlen : acc.toList.length ≤ sizeLine := by rw [hal, List.length_map, ← hes]; exact hz
  refine wpAny_bind (wpAny_newList ?_ hlen)
  have hoL : (h'.push (seqObj "list" acc.toList.toArray 0)).get? h'.objs.size = some (seqObj "list" acc.toList.toArray 0) := Heap.get?_push_size _ rfl
  show wpAny _ _ _ _ _ { s with heap := h'.push (seqObj "list" acc.toList.toArray 0), toks := tk }
  have isP : ∀ v ∈ acc.toList, Srt.IsPair (h'.push (seqObj "list" acc.toList.toArray 0)) v (kH H (rfA v)).1 (kH H (rfA v)).2 := fun v hv => by
    rw [hal] at hv
    obtain ⟨x, hx', rfl⟩ := List.mem_map.mp hv
    obtain ⟨qq, t, et, ht⟩ := each_of_paired hks (V.ref x.2.1) (List.mem_map.mpr ⟨x, hx', rfl⟩)
    cases et
    show Srt.IsPair _ (Value.ref x.2.1) (kH H x.2.1).1 (kH H x.2.1).2
    rw [kH_of ht]
    obtain ⟨_, its2, r2, o2, ho2, hc2, n2, hd2⟩ := I1.hok _ _ ht
    obtain ⟨u1, u2, rfl, ri, rj⟩ := vals2 r2
    obtain ⟨t1, rfl⟩ := ri
    obtain ⟨t2, rfl⟩ := rj
    exact ⟨x.2.1, o2, t1, t2, n2, rfl, Heap.get?_push_of_some _ ho2, hc2, hd2⟩
  refine wpAny_bind (wpAny_holding (wpAny_call_entry PyProof.Rows.slot_list_sort ⟨_, hoL, rfl⟩ PyProof.Rows.entry_list_sort
    (SrtO.list_sort_ord (s := { s with heap := h'.push (seqObj "list" acc.toList.toArray 0), toks := tk }) (SrtO.swo_lex fun v => kH H (rfA v)) hoL hlen (fun h2 => SrtO.pairs_sortableO (by omega) isP fun o' e' => ?_) fun out g1 g2 => ⟨_, rfl, ?_⟩) (PyProof.Rows.args_list_sort _)))
  · have e'' : some o' = some (seqObj "list" acc.toList.toArray 0) := e'.symm.trans hoL
    cases e''
    intro c
    exact absurd (Value.type.inj c) (by decide)
  obtain ⟨e', he'⟩ := PyProof.Rows.sortedHeap_at (vs := acc.toList) (out := out.toArray) hoL
  have hor : ∀ v ∈ out, ∃ b, v = Value.ref b := fun v hv => by
    have hm := g2.perm.mem_iff.mp hv
    rw [hal] at hm
    obtain ⟨x, _, rfl⟩ := List.mem_map.mp hm
    exact ⟨_, rfl⟩
  have hov := vals_back hor
  have hlo : (out.map backV).length ≤ sizeLine := by rw [List.length_map, g2.perm.length_eq]; exact hlen
  have hpm : (out.map backV).Perm (xs.map fun x => V.ref x.2.1) := by
    have e1 := g2.perm.map backV
    rw [hal, List.map_map] at e1
    exact e1
  have hpair : Paired (IsP H) (out.map backV) ((out.map backV).map fun y => kH H (rfV y)) := paired_of_map fun y hy => each_of_paired hks y (hpm.mem_iff.mp hy)
  have hqs : ((out.map backV).map fun y => kH H (rfV y)) = out.map fun v => kH H (rfA v) := by
    rw [List.map_map]
    refine List.map_congr_left fun v hv => ?_
    obtain ⟨b, rfl⟩ := hor v hv
    rfl
  refine wpAny_pure ⟨_, rfl, .ref h'.objs.size, upd H h'.objs.size (.lst (out.map backV)), I1.laid (t' := tk) (fun b u e => ?_) (Nat.le_refl _)
    (show ObjOk X.prog X.w _ _ _ (.lst (out.map backV)) from ⟨hlo, out, e', hov, he'⟩), rfl, q _ (out.map backV) ((out.map backV).map fun y => kH H (rfV y)) nd ?_ ?_ hpair (I1.hok.fresh (Nat.le_refl _))⟩
  · have hb : b < h'.objs.size := Heap.lt_size e
    rw [PyProof.Rows.sortedHeap_old (Nat.ne_of_lt hb) (by rw [size_push']; exact Nat.lt_succ_of_lt hb)]
    exact Heap.get?_push_of_some _ e
  · have e1 := hpm.map fun y => kH H (rfV y)
    rw [map_of_paired hks] at e1
    exact e1
  · rw [hqs]
    exact List.pairwise_map.mpr g1
end
end R3

namespace R4
open PySem PySem.Spec PyProof.Rows L2 L2H HotX
/-! ### C(e) for an own error class with an __init__, its context None -/
theorem pmk_oexN {X : Cx} {CX : CXT} {x : Str} {e : Expr} {es : List Expr} {ta : TA} {p pos : Pos} {C fI : Addr} {k : Nat} {fd : FuncData} {ps : List Str} {sp : Sp} (T : OexC X.K C) (iC : PySem.W.findIn X.K (.ref C) "__init__" = some (some (.ref fI))) (tI : PySem.W.typeIn X.K (.ref fI) = some (.type "function"))
    (F1 : FnOk X.prog X.w X.K X.mg X.base CX k fI fd ps sp) (hr : Room (k + 1) X.A) (hb : Binds X.K fd ps []) (hx : Passes CX X (fun _ _ _ => False)) (hg : Gl X x) (hm : X.mg x = some (.ref C)) (ha : PA X (e :: es) ta)
    (hdb : (x == ("__debug__" : Str)) = false := by decide) (he : starEach (e :: es) X.env = (false, eval e X.env) :: starEach es X.env := by rfl) (hpl : (backTo pos (starEach es X.env)).any (·.1) = false := by rfl) :
    L2N.PMk X (.Call (.Name x p) (e :: es) [] pos) (tMkO C sp [] ta) := fun pins s σ H Q I h => by
  obtain ⟨nm, q, N, bs, bm, sn, sub, ab, col, dd, k0, k1, k2, k3, k5, hC, hbm⟩ := T.cls
  refine wpAny_Call_Name_kw (ld_glob I hg hm (PySem.W.callWith_K (h₀ := X.base) I.ok.mod.kin T.kC (thn (ha.run pos pins s σ H _ I h) ?_) he hpl) hdb)
  rintro us ⟨hp, g, dr, tk, os⟩ ⟨vs, H1, I1, r1, hz, q1⟩
  refine ⟨I1.kIn, ?_⟩
  have hle : hp.objs.size ≤ hp.objs.size + 1 := Nat.le_succ _
  have hq := q1 _ (I1.hok.fresh hle)
  have kk : ∀ b o, hp.get? b = some o → ((hp.push (PySem.W.kdv_tup us)).push (PySem.HandSPX.excO C hp.objs.size)).get? b = some o := fun b o z => Heap.get?_push_of_some _ (Heap.get?_push_of_some _ z)
  have I2 : Inv X pins σ (upd H1 (hp.objs.size + 1) (exo (hp.objs.size + 1) C none)) ⟨(hp.push (PySem.W.kdv_tup us)).push (PySem.HandSPX.excO C hp.objs.size), g, dr, tk, os⟩ :=
    I1.laid (t' := tk) kk hle (exo_ok (t1 := hp.objs.size) (by heap_get))
  have r2 : Vals (V.ref (hp.objs.size + 1) :: (vs ++ [])) (Value.ref (hp.objs.size + 1) :: us) := by rw [List.append_nil]; exact .cons rfl r1
  have hl : (Value.ref (hp.objs.size + 1) :: us ++ []).length = ps.length := by
    rw [List.append_nil, ← r2.length]
    exact F1.len _ _ _ _ hq
  have b2 := hb _ (Value.ref (hp.objs.size + 1) :: us) I2.kIn hl
  rw [List.append_nil] at b2
  have run := F1.run _ X.stack _ _ ⟨Value.ref (hp.objs.size + 1) :: us, []⟩ (Value.ref (hp.objs.size + 1) :: us) _ _ (fun _ _ _ => False) (hr.make C us []) (I2.env0.make C us []) b2 r2 hq
  refine wpAny_call (PySem.HandSPX.call_own F.excBase_ValueError (fun Y => PySem.HandSPX.refsVE_contains Y bm hbm) (I1.kIn _ _ hC) (PySem.W.looks_findIn I1.kIn iC) (fun self => PySem.W.bind_fn I1.kIn self tI)
    (by show us.length ≤ sizeLine; rw [← Paired.length r1, sizeLine_eq]; omega) (codeAny_mono run ?_))
  rintro (er | (_ | _ | _ | u)) s' hq'
  · exact hx pins σ _ _ er s' I2 hq'
  · exact False.elim hq'
  · exact False.elim hq'
  · exact False.elim hq'
  · obtain ⟨v, H2, os2, bare2, un2, hok2, rv, ev, d, fs, ea, ed, hd1, q2⟩ := hq'
    subst ev
    obtain ⟨t0, G, J, kG, ge, hoe, na⟩ := mk_end0 (d2 := s'.drawn) (t2 := s'.toks) I1 hle kk un2 hok2 os2 bare2 ea ed hd1
    exact ⟨rv, _, _, _, ⟨G, s'.gens, s'.drawn, s'.toks, s'.os⟩, _, .ref C, some d, rfl, J, kG, ge, hoe, ⟨rfl, rfl, fun vs hv => by cases hv; rfl⟩, rfl, rfl, na, rfl, bare2, raises_own T.exC T.tyC, q2⟩

/-! ### defs that are handed the very exception that is handled -/
structure FnP (P : Program) (w : World) (K : PySem.W.Frag) (mg : Str → Option Value) (base : Heap) (k : Nat) (f : Addr) (fd : FuncData) (ps : List Str) (sp : Addr × Obj → Sp) : Prop where
  len : ∀ p vs H Q E, sp p vs H Q E → vs.length = ps.length
  run : ∀ (p : Addr × Obj) (A : Around) (outer : List Env) (s : Shared) (H : Hp) (args : Args) (us : List Value) (vs : List V) (Q : VK) (E : XK), RoomH k A → Hot1 A p → PinOk outer H s p → Env0 P w K mg base A outer s H → BindsTo s fd args (ps.zip us) → Vals vs us → sp p vs H Q E →
    codeAny (model P w) A (.call (.ref f) args) (CR CX0 outer P w H s Q E) s
theorem FnP.ok {P : Program} {w : World} {K : PySem.W.Frag} {mg : Str → Option Value} {base : Heap} {k : Nat} {x qual : Str} {st : Stmt} {f : Addr} {fd : FuncData} {N ps : List Str} {sp : Addr × Obj → Sp}
    (F : Fun K x qual st f fd) (S : FnScope N ps (defScope st)) (len : ∀ p vs H Q E, sp p vs H Q E → vs.length = ps.length)
    (hbody : ∀ (cdv : Value) (p : Addr × Obj) (A : Around) (outer : List Env) (s : Shared) (H : Hp) (vs : List V) (Q : VK) (E : XK), Hot1 A p → RoomH k (A.deeper (envOfC qual (defScope st) s.heap.objs.size f cdv)) → sp p vs H Q E →
      ∃ t, PSs (cxH CX0 P w K mg base N qual (defScope st) f cdv A outer s H E p) (defBody st) t ∧ t { nx := fun _ H' => Q .non H', rt := Q } (L2.start N vs) H) :
    FnP P w K mg base (k + 1) f fd ps sp := by
  obtain ⟨oc, od, kV, doc, pm, an, cdv, ct, osl, rfl, lk, hcd⟩ := F.ex
  refine ⟨len, fun p A outer s H args us vs Q E hr hot hpin e0 hb r hsp => ?_⟩
  have KX : K.In s.heap := e0.mod.kin.keeps fun b o e => (e0.bs b o e).1
  have names : ∀ y ∈ ps.zip us, (defScope st).names.lookup y.1 = some .local ∨ ((defScope st).names.lookup y.1 = some .cell ∧ ((cellsFrom (s.heap.objs.size + 1) (defScope st).names []).lookup y.1).isSome = true) := fun y hy =>
    (S.par y.1 (List.of_mem_zip (a := y.1) (b := y.2) hy).1).imp id fun q => ⟨q, PySem.W.cellsFrom_some _ _ _ (.inl q)⟩
  refine codeAny_call_function hr.depth (KX _ _ lk) rfl S.co S.gen rfl (PySem.W.codeRec_of KX hcd) (hb _ _ _ _ (wpAny_newFunctionEnv_cells S.kind names ?_))
  rintro env rfl s1 x
  refine ⟨(e0.mod.nolimit.keeps fun b o e => (e0.bs b o e).1).keeps x.toInCall.keep, codeAny_func ?_⟩
  obtain ⟨t, ht, hq⟩ := hbody cdv p A outer s H vs Q E hot (hr.deeper _) hsp
  refine wpAny_mono (ht.run [] s1 (L2.start N vs) H _ (inv_startH S hpin e0 (len _ _ _ _ _ hsp) r x) hq) ?_ fun e s' hs => hs
  rintro (_ | _ | _ | u) s' hs
  · obtain ⟨σ', H', J, q⟩ := hs
    exact ⟨.non, H', J.os, J.bare, J.base, J.hok, rfl, q⟩
  · exact False.elim hs.choose_spec.choose_spec.2
  · exact False.elim hs.choose_spec.choose_spec.2
  · obtain ⟨v, σ', H', J, rv, q⟩ := hs
    exact ⟨v, H', J.os, J.bare, J.base, J.hok, rv, q⟩
section
variable {X : Cx} {k : Nat} {f : Addr} {fd : FuncData} {ps : List Str} {sp : Addr × Obj → Sp} {x : Str} {q pos : Pos} {e : Expr} {es : List Expr} {t : TA} {p : Addr × Obj}
def tCallP (sp : Sp) (t : TA) : TE := fun σ H Q => t σ H fun vs H1 => sp vs H1 Q E0
theorem pe_callP (F : FnP X.prog X.w X.K X.mg X.base k f fd ps sp) (hr : RoomH k X.A) (hot : Hot1 X.A p) (hp : p ∈ X.pn) (hg : Gl X x) (hm : X.mg x = some (.ref f)) (hk : PySem.W.keepIn X.K (.ref f) = true) (hb : Binds X.K fd ps [])
    (ha : PA X (e :: es) t) (hdb : (x == ("__debug__" : Str)) = false := by decide) (he : starEach (e :: es) X.env = (false, eval e X.env) :: starEach es X.env := by rfl) (hpl : (backTo pos (starEach es X.env)).any (·.1) = false := by rfl) :
    PE X (.Call (.Name x q) (e :: es) [] pos) (tCallP (sp p) t) := by
  refine ⟨fun pins s σ H Q I h => wpAny_Call_Name_kw (ld_glob I hg hm (PySem.W.callWith_K (h₀ := X.base) I.ok.mod.kin hk (thn (ha.run pos pins s σ H _ I h) ?_) he hpl) hdb)⟩
  rintro us s1 ⟨vs, H1, I1, r, q⟩
  refine ⟨I1.kIn, ?_⟩
  have hl : us.length = ps.length := by rw [← r.length]; exact F.len _ _ _ _ _ q
  have b := hb s1 us I1.kIn (by rw [List.append_nil]; exact hl)
  rw [List.append_nil] at b
  obtain ⟨P1, P2, P3, P4, P5⟩ := I1.pin p (List.mem_append_left _ hp)
  refine wpAny_call (codeAny_mono (F.run p X.A X.stack s1 H1 ⟨us, []⟩ us vs Q E0 hr hot ⟨P1, P2, fun hm => (List.mem_cons.mp (I1.stkSub p.1 hm)).elim P3 P4, P5⟩ I1.env0 b r q) ?_)
  rintro (er | (_ | _ | _ | u)) s' hq'
  · exact False.elim hq'
  · exact False.elim hq'
  · exact False.elim hq'
  · exact False.elim hq'
  · exact I1.after hq'
/-- isinstance(e, C), e the handled exception -/
def rIsP (K : PySem.W.Frag) (D dx : Addr) (a : Addr) : List V → Hp → VK → Prop := fun xs H Q => ∃ (c : V) (cv : Value) (b : Bool), xs = [.ref a, c] ∧ (∀ u, RelV c u → u = cv) ∧ PySem.W.kitOne K (.ref D) cv = some b ∧ (∃ fs, H dx = some (.xd fs)) ∧ Q (.bl b) H
theorem call_isP {D dx : Addr} (C : L2.ExcC X.K D) (hz : Zc (.ref D) (some dx) p.2) (hf : ∃ vs, p.2.data = .fields vs) (hp : p ∈ X.pn) : CallR X (.builtin "isinstance") (rIsP X.K D dx p.1) := by
  rintro pins s σ H xs us Q I r ⟨c, cv, b, rfl, hcv, e, ⟨fs, hdx⟩, q⟩
  obtain ⟨u1, u2, rfl, r1, r2⟩ := vals2 r
  obtain rfl : u1 = Value.ref p.1 := r1
  have ec := hcv _ r2
  subst ec
  obtain ⟨hget, _⟩ := I.pin p (List.mem_append_left _ hp)
  obtain ⟨vs, hv⟩ := hf
  obtain ⟨mA, hns, _⟩ : ObjOk X.prog X.w H s.heap dx (.xd fs) := I.hok dx _ hdx
  obtain ⟨od, ho, _⟩ := lookIn_ns hns
  have J : PySem.W.InstAt s.heap p.1 p.2 D (some od) := ⟨hget, hz.1, by unfold PySem.W.notCls; rw [hv] <;> rfl, by rw [hz.2]; exact ho⟩
  have hcl : (PySem.W.clsIn X.K D).isSome = true := by
    obtain ⟨cd, hc, _⟩ := PySem.W.any_some C.hd
    rw [hc]; rfl
  exact PySem.W.kia_one (PySem.W.kitx_exc hcl C.hg C.hk C.hs C.ha C.hn C.ht C.hm) I.kIn J e (fun z => nomatch z) fun tk => ⟨.bl b, H, I.kept (t' := tk) fun _ _ z => z, rfl, q⟩
end
end R4

namespace Lk
open PySem L2 GxR
/-! ### heaps that grow -/
/-- all that was tracked stands, but for x; tables of code objects may grow -/
structure Gr (x : Option Addr) (H H' : Hp) : Prop where
  keep : ∀ b o, some b ≠ x → H b = some o → (∀ ps, o ≠ .tbl ps) → H' b = some o
  tab : ∀ b ps, H b = some (.tbl ps) → ∃ ps', H' b = some (.tbl ps') ∧ (TriplesOk ps.toList → TriplesOk ps'.toList)
section
variable {x : Option Addr} {H H' H1 H2 : Hp} {p a : Addr} {o : HO}
theorem Gr.refl : Gr x H H := ⟨fun _ _ _ h _ => h, fun _ ps h => ⟨ps, h, id⟩⟩
theorem Gr.trans (g : Gr x H H1) (k : Gr x H1 H2) : Gr x H H2 :=
  ⟨fun b o hb h n => k.keep b o hb (g.keep b o hb h n) n, fun b ps h => by
    obtain ⟨p1, e1, t1⟩ := g.tab b ps h
    obtain ⟨p2, e2, t2⟩ := k.tab b p1 e1
    exact ⟨p2, e2, fun z => t2 (t1 z)⟩⟩
theorem Gr.any (g : Gr none H H') : Gr x H H' := ⟨fun b o _ h n => g.keep b o (by simp) h n, g.tab⟩
theorem Gr.new (hp : H p = none) : Gr x H (upd H p o) :=
  ⟨fun b o' _ h _ => by rw [upd_ne (ne_of_none h hp)]; exact h, fun b ps h => ⟨ps, by rw [upd_ne (ne_of_none h hp)]; exact h, id⟩⟩
theorem Gr.at (hp : ∀ ps, H p ≠ some (.tbl ps)) : Gr (some p) H (upd H p o) :=
  ⟨fun b o' hb h _ => by rw [upd_ne (fun e => hb (by rw [e]))]; exact h, fun b ps h => ⟨ps, by rw [upd_ne (fun e => hp ps (by rw [← e]; exact h))]; exact h, id⟩⟩
theorem Gr.free (g : Gr x H H') (hp : H' p = none) (hx : some p ≠ x) : H p = none := by
  cases h : H p with
  | none => rfl
  | some o =>
    by_cases ho : ∃ ps, o = .tbl ps
    · obtain ⟨ps, rfl⟩ := ho
      obtain ⟨ps', e, _⟩ := g.tab p ps h
      rw [hp] at e; cases e
    · have e := g.keep p o hx h fun ps z => ho ⟨ps, z⟩
      rw [hp] at e; cases e
theorem Gr.free0 (g : Gr none H H') (hp : H' p = none) : H p = none := g.free hp (by simp)
theorem Gr.lst {xs : List V} (g : Gr none H H') (h : H p = some (.lst xs)) : H' p = some (.lst xs) := g.keep p _ (by simp) h fun _ z => nomatch z
theorem Gr.tup {xs : List V} (g : Gr none H H') (h : H p = some (.tup xs)) : H' p = some (.tup xs) := g.keep p _ (by simp) h fun _ z => nomatch z
theorem Gr.ins {C dx : Addr} {fs : List (Str × V)} (g : Gr none H H') (h : H p = some (.ins C dx fs)) : H' p = some (.ins C dx fs) := g.keep p _ (by simp) h fun _ z => nomatch z
/-- a new object, then changed: as if it were new -/
theorem Gr.fresh (g : Gr none H H') (hp : H p = none) : Gr none H (upd H' p o) :=
  ⟨fun b o' hb h n => by rw [upd_ne (ne_of_none h hp)]; exact g.keep b o' hb h n, fun b ps h => by
    obtain ⟨ps', e, t⟩ := g.tab b ps h
    exact ⟨ps', by rw [upd_ne (ne_of_none h hp)]; exact e, t⟩⟩
theorem Gr.tabG {P : Addr} (g : Gr x H H') (h : TabG H P) : TabG H' P := by
  obtain ⟨ps, e, t⟩ := h
  obtain ⟨ps', e', t'⟩ := g.tab P ps e
  exact ⟨ps', e', t' t⟩
theorem Gr.tabbed {P : Addr} (h : TabG H P) (t : Tabbed P H H') : Gr none H H' := by
  obtain ⟨⟨ps', e', t'⟩, k⟩ := t
  obtain ⟨ps, e, _⟩ := h
  refine ⟨fun b o _ hb n => ?_, fun b qs hb => ?_⟩
  · rw [k b (fun z => by rw [z, e] at hb; exact n _ (Option.some.inj hb).symm)]
    exact hb
  · by_cases z : b = P
    · rw [z]; exact ⟨ps', e', fun _ => t'⟩
    · exact ⟨qs, by rw [k b z]; exact hb, id⟩
/-- x is no tuple -/
def NoTup (x : Option Addr) (H : Hp) : Prop := ∀ p, x = some p → (∀ xs, H p ≠ some (.tup xs)) ∧ ∀ o xs, H p ≠ some (.frz o (.tup xs))
theorem NoTup.none : NoTup Option.none H := fun _ h => nomatch h
theorem NoTup.lst {xs : List V} (h : H p = some (.lst xs)) : NoTup (some p) H := fun q e => by
  cases e
  exact ⟨fun ys z => (by rw [h] at z; cases z), fun o ys z => (by rw [h] at z; cases z)⟩
theorem NoTup.free (h : H p = Option.none) : NoTup (some p) H := fun q e => by
  cases e
  exact ⟨fun ys z => (by rw [h] at z; cases z), fun o ys z => (by rw [h] at z; cases z)⟩
theorem Gr.sqT {K : PySem.W.Frag} {xs : List V} (g : Gr x H H') (n : NoTup x H) (h : SqT K H a xs) : SqT K H' a xs := by
  rcases h with (h | ⟨o, h⟩) | h
  · exact .inl (.inl (g.keep a _ (fun e => (n a e.symm).1 _ h) h fun _ z => nomatch z))
  · exact .inl (.inr ⟨o, g.keep a _ (fun e => (n a e.symm).2 _ _ h) h fun _ z => nomatch z⟩)
  · exact .inr h
theorem Gr.sqL {K : PySem.W.Frag} {xs : List V} (g : Gr none H H') (h : SqL K H a xs) : SqL K H' a xs := by
  rcases h with (h | ⟨o, h⟩) | h
  · exact .inl (.inl (g.lst h))
  · exact .inl (.inr ⟨o, g.keep a _ (by simp) h fun _ z => nomatch z⟩)
  · exact .inr h
end

/-! ### data of tuples -/
mutual
inductive Tp (K : PySem.W.Frag) (H : Hp) : V → PyData → Prop
  | non : Tp K H .non .none
  | bl (b : Bool) : Tp K H (.bl b) (.bool b)
  | int (i : Int) : Tp K H (.int i) (.int i)
  | str (x : Str) : Tp K H (.str x) (.str x)
  | tup {a : Addr} {xs : List V} {ds : List PyData} : SqT K H a xs → TpAll K H xs ds → Tp K H (.ref a) (.tuple ds)
inductive TpAll (K : PySem.W.Frag) (H : Hp) : List V → List PyData → Prop
  | nil : TpAll K H [] []
  | cons {v : V} {vs : List V} {d : PyData} {ds : List PyData} : Tp K H v d → TpAll K H vs ds → TpAll K H (v :: vs) (d :: ds)
end
section
variable {K : PySem.W.Frag} {x : Option Addr} {H H' : Hp} {v : V} {vs : List V} {d : PyData} {ds : List PyData}
mutual
theorem Tp.gr (g : Gr x H H') (n : NoTup x H) : ∀ {v : V} {d : PyData}, Tp K H v d → Tp K H' v d
  | _, _, .non => .non
  | _, _, .bl b => .bl b
  | _, _, .int i => .int i
  | _, _, .str s => .str s
  | _, _, .tup h t => .tup (g.sqT n h) (TpAll.gr g n t)
theorem TpAll.gr (g : Gr x H H') (n : NoTup x H) : ∀ {vs : List V} {ds : List PyData}, TpAll K H vs ds → TpAll K H' vs ds
  | _, _, .nil => .nil
  | _, _, .cons h t => .cons (Tp.gr g n h) (TpAll.gr g n t)
end
theorem Tp.gr0 (g : Gr none H H') (h : Tp K H v d) : Tp K H' v d := h.gr g .none
theorem TpAll.gr0 (g : Gr none H H') (h : TpAll K H vs ds) : TpAll K H' vs ds := h.gr g .none
mutual
theorem Tp.dp : ∀ {v : V} {d : PyData}, Tp K H v d → Dp K H v d
  | _, _, .non => .non
  | _, _, .bl b => .bl b
  | _, _, .int i => .int i
  | _, _, .str s => .str s
  | _, _, .tup h t => .tup h (TpAll.dp t)
theorem TpAll.dp : ∀ {vs : List V} {ds : List PyData}, TpAll K H vs ds → DpAll K H vs ds
  | _, _, .nil => .nil
  | _, _, .cons h t => .cons (Tp.dp h) (TpAll.dp t)
end
theorem TpAll.append : ∀ {vs ws : List V} {ds es : List PyData}, TpAll K H vs ds → TpAll K H ws es → TpAll K H (vs ++ ws) (ds ++ es)
  | _, _, _, _, .nil, s => s
  | _, _, _, _, .cons h t, s => .cons h (TpAll.append t s)
theorem TpAll.length : ∀ {vs : List V} {ds : List PyData}, TpAll K H vs ds → vs.length = ds.length
  | _, _, .nil => rfl
  | _, _, .cons _ t => by rw [List.length_cons, List.length_cons, TpAll.length t]
theorem TpAll.get : ∀ {vs : List V} {ds : List PyData} {i : Nat} {v : V}, TpAll K H vs ds → vs[i]? = some v → ∃ d, ds[i]? = some d ∧ Tp K H v d
  | _, _, _, _, .nil, e => by simp at e
  | _, _, 0, _, .cons h _, e => by simp at e; subst e; exact ⟨_, rfl, h⟩
  | _, _, i + 1, v, .cons _ t, e => by
    obtain ⟨d, h1, h2⟩ := TpAll.get (i := i) (v := v) t (by simpa using e)
    exact ⟨d, by simpa using h1, h2⟩
theorem TpAll.get' : ∀ {vs : List V} {ds : List PyData} {i : Nat} {d : PyData}, TpAll K H vs ds → ds[i]? = some d → ∃ v, vs[i]? = some v ∧ Tp K H v d
  | _, _, _, _, .nil, e => by simp at e
  | _, _, 0, _, .cons h _, e => by simp at e; subst e; exact ⟨_, rfl, h⟩
  | _, _, i + 1, d, .cons _ t, e => by
    obtain ⟨v, h1, h2⟩ := TpAll.get' (i := i) (d := d) t (by simpa using e)
    exact ⟨v, by simpa using h1, h2⟩
theorem TpAll.ints : ∀ {vs : List V} {ns : List Int}, TpAll K H vs (ns.map PyData.int) → vs = ns.map V.int
  | [], [], _ => rfl
  | _ :: _, [], h => by cases h
  | [], _ :: _, h => by cases h
  | v :: vs, n :: ns, h => by
    cases h with
    | cons h t =>
      cases h
      rw [List.map_cons, TpAll.ints t]
theorem TpAll.of_ints : ∀ {ns : List Int}, TpAll K H (ns.map V.int) (ns.map PyData.int)
  | [] => .nil
  | n :: ns => .cons (.int n) TpAll.of_ints
theorem TpAll.bls : ∀ {vs : List V} {ns : List Bool}, TpAll K H vs (ns.map PyData.bool) → vs = ns.map V.bl
  | [], [], _ => rfl
  | _ :: _, [], h => by cases h
  | [], _ :: _, h => by cases h
  | v :: vs, n :: ns, h => by
    cases h with
    | cons h t =>
      cases h
      rw [List.map_cons, TpAll.bls t]
theorem Tp.tuple (h : Tp K H v (.tuple ds)) : ∃ a xs, v = .ref a ∧ SqT K H a xs ∧ TpAll K H xs ds := by
  cases h with
  | tup h t => exact ⟨_, _, rfl, h, t⟩
theorem Tp.intV {i : Int} (h : Tp K H v (.int i)) : v = .int i := by cases h; rfl
theorem Tp.blV {b : Bool} (h : Tp K H v (.bool b)) : v = .bl b := by cases h; rfl
theorem Tp.ints {ns : List Int} (h : Tp K H v (.tuple (ns.map PyData.int))) : ∃ a, v = .ref a ∧ SqT K H a (ns.map V.int) := by
  obtain ⟨a, xs, rfl, hs, t⟩ := h.tuple
  rw [t.ints] at hs
  exact ⟨a, rfl, hs⟩
/-- the class of a datum -/
def tyD : PyData → String
  | .none => "NoneType"
  | .bool _ => "bool"
  | .int _ => "int"
  | .str _ => "str"
  | .list _ => "list"
  | .tuple _ => "tuple"
  | .dict _ => "dict"
theorem sqT_ty {a : Addr} {xs : List V} (h : SqT K H a xs) : TyX K H (.ref a) (.type "tuple") := by
  rcases h with (h | ⟨o, h⟩) | ⟨o, its, n, hk, hc, _⟩
  · exact .base (.tup h)
  · exact .fTuple h
  · exact .kTuple hk hc
theorem sqL_ty {a : Addr} {xs : List V} (h : SqL K H a xs) : TyX K H (.ref a) (.type "list") := by
  rcases h with (h | ⟨o, h⟩) | ⟨o, its, n, hk, hc, _⟩
  · exact .base (.lst h)
  · exact .base (.frz h)
  · exact .kList hk hc
theorem Dp.ty (h : Dp K H v d) : TyX K H v (.type (tyD d)) := by
  cases h with
  | non => exact .base .non
  | bl b => exact .base (.bl b)
  | int i => exact .base (.int i)
  | str s => exact .base (.str s)
  | lst h _ => exact sqL_ty h
  | tup h _ => exact sqT_ty h
theorem Tp.ty (h : Tp K H v d) : TyX K H v (.type (tyD d)) := Dp.ty h.dp
end

/-! ### comprehensions of tuple data -/
theorem filter_take_succ {α : Type} {as : List α} {i : Nat} {al : α} (keep : α → Bool) (h : as[i]? = some al) : (as.take (i + 1)).filter keep = (as.take i).filter keep ++ (if keep al = true then [al] else []) := by
  rw [List.take_add_one, h, List.filter_append]
  congr 1
  show List.filter keep [al] = _
  by_cases k : keep al = true
  · rw [if_pos k, List.filter_cons_of_pos k, List.filter_nil]
  · rw [if_neg k, List.filter_cons_of_neg k, List.filter_nil]
abbrev LcW (J : It) (D : Addr) (g : TG) (tt : TT) (te : TE) (vs : List Nat) (σ : L2.St) (H1 : Hp) (Qd : Hp → Prop) : Prop :=
  ∃ W : Nat → Nat → Hp → Prop, (∃ m, W 0 m (upd H1 D (.lst []))) ∧ ∀ i m H, W i m H →
      (J.stop i H ∧ Qd H) ∨ (J.go i H ∧ ∃ Nx : Hp → Prop, (∀ H', Nx H' → ∃ m', m' < m ∧ W (i + 1) m' H') ∧ ∀ x H', J.yld i H x H' → g x (wipe σ vs) H' fun σ2 H2 => wipe σ2 vs = wipe σ vs ∧ tt σ2 H2 fun b H3 =>
        if b = true then te σ2 H3 fun y H4 => ∃ acc, H4 D = some (.lst acc) ∧ acc.length < sizeLine ∧ Nx (upd H4 D (.lst (acc ++ [y]))) else Nx H3)
theorem lcG {K : PySem.W.Frag} {α : Type} {J : It} {n : Nat} {G : Hp → Prop} {Y : Nat → Hp → V → Hp → Prop} (w : Walk J n G Y) {as : List α} (hn : as.length = n) (hz : n ≤ 100000) {g : TG} {tt : TT} {te : TE} {vs : List Nat} {σ : L2.St} {H1 : Hp} {D : Addr} {Qd : Hp → Prop} (hD : H1 D = none)
    (hG : ∀ H, Gr none H1 H → G H) (keep : α → Bool) (f : α → PyData)
    (hs : ∀ (i : Nat) (al : α) (x : V) (H H' : Hp) (Acc : VK) (No : Hp → Prop), as[i]? = some al → Gr none H1 H → Y i H x H' → (keep al = true → ∀ y H4, Gr none H H4 → Tp K H4 y (f al) → Acc y H4) → (keep al = false → ∀ H3, Gr none H H3 → No H3) →
      g x (wipe σ vs) H' fun σ2 H2 => wipe σ2 vs = wipe σ vs ∧ tt σ2 H2 fun b H3 => if b = true then te σ2 H3 Acc else No H3)
    (hd : ∀ H ys, Gr none H1 H → H D = some (.lst ys) → TpAll K H ys ((as.filter keep).map f) → Qd H) :
    ∃ W : Nat → Nat → Hp → Prop, (∃ m, W 0 m (upd H1 D (.lst []))) ∧ ∀ i m H, W i m H →
      (J.stop i H ∧ Qd H) ∨ (J.go i H ∧ ∃ Nx : Hp → Prop, (∀ H', Nx H' → ∃ m', m' < m ∧ W (i + 1) m' H') ∧ ∀ x H', J.yld i H x H' → g x (wipe σ vs) H' fun σ2 H2 => wipe σ2 vs = wipe σ vs ∧ tt σ2 H2 fun b H3 =>
        if b = true then te σ2 H3 fun y H4 => ∃ acc, H4 D = some (.lst acc) ∧ acc.length < sizeLine ∧ Nx (upd H4 D (.lst (acc ++ [y]))) else Nx H3) := by
  refine lc_it w (fun i H => Gr none H1 H ∧ ∃ acc, H D = some (.lst acc) ∧ TpAll K H acc (((as.take i).filter keep).map f)) ⟨Gr.new hD, [], upd_same, by rw [List.take_zero]; exact .nil⟩ (fun i H _ h => hG H h.1) (fun i x H H' hi ⟨hg, acc, hacc, ht⟩ hy => ?_) fun H ⟨hg, acc, hacc, ht⟩ => hd H acc hg hacc (by rw [← hn, List.take_length] at ht; exact ht)
  have hal : as[i]? = some (as[i]'(by omega)) := List.getElem?_eq_getElem (by omega)
  refine hs i (as[i]'(by omega)) x H H' _ _ hal hg hy (fun hk y H4 g4 t4 => ?_) fun hk H3 g3 => ?_
  · have h4 := g4.lst hacc
    have hl := ht.length
    have hlt : acc.length < sizeLine := by
      rw [hl, List.length_map]
      have e := List.length_filter_le keep (as.take i)
      rw [List.length_take] at e
      rw [sizeLine_eq]
      omega
    have ga : Gr (some D) H4 (upd H4 D (.lst (acc ++ [y]))) := Gr.at fun ps z => by rw [h4] at z; cases z
    refine ⟨acc, h4, hlt, Gr.fresh (hg.trans g4) hD, acc ++ [y], upd_same, ?_⟩
    rw [filter_take_succ keep hal, if_pos hk, List.map_append]
    exact ((ht.gr0 g4).append (.cons t4 .nil)).gr ga (.lst h4)
  · refine ⟨hg.trans g3, acc, g3.lst hacc, ?_⟩
    rw [filter_take_succ keep hal, if_neg (by rw [hk]; exact Bool.false_ne_true), List.append_nil]
    exact ht.gr0 g3
/-- over the tuple xs -/
theorem lcT {K : PySem.W.Frag} {α : Type} {a : Addr} {xs : List V} {as : List α} (hn : as.length = xs.length) (hz : xs.length ≤ 100000) {g : TG} {tt : TT} {te : TE} {vs : List Nat} {σ : L2.St} {H1 : Hp} {D : Addr} {Qd : Hp → Prop} (hD : H1 D = none)
    (hx : SqT K H1 a xs) (keep : α → Bool) (f : α → PyData)
    (hs : ∀ (i : Nat) (al : α) (x : V) (H : Hp) (Acc : VK) (No : Hp → Prop), as[i]? = some al → xs[i]? = some x → Gr none H1 H → (keep al = true → ∀ y H4, Gr none H H4 → Tp K H4 y (f al) → Acc y H4) → (keep al = false → ∀ H3, Gr none H H3 → No H3) →
      g x (wipe σ vs) H fun σ2 H2 => wipe σ2 vs = wipe σ vs ∧ tt σ2 H2 fun b H3 => if b = true then te σ2 H3 Acc else No H3)
    (hd : ∀ H ys, Gr none H1 H → H D = some (.lst ys) → TpAll K H ys ((as.filter keep).map f) → Qd H) : LcW (Itt K a) D g tt te vs σ H1 Qd :=
  lcG (K := K) (walk_tup (K := K) (a := a) (xs := xs)) hn hz (σ := σ) (g := g) (tt := tt) (te := te) (vs := vs) hD (fun H h => h.sqT .none hx) keep f (fun i al x H H' Acc No h1 h2 h3 h4 h5 => by
    obtain ⟨e, h3⟩ := h3
    subst e
    exact hs i al x H' Acc No h1 h3 h2 h4 h5) hd
/-- over the list xs -/
theorem lcL {K : PySem.W.Frag} {α : Type} {a : Addr} {xs : List V} {as : List α} (hn : as.length = xs.length) (hz : xs.length ≤ 100000) {g : TG} {tt : TT} {te : TE} {vs : List Nat} {σ : L2.St} {H1 : Hp} {D : Addr} {Qd : Hp → Prop} (hD : H1 D = none)
    (hx : SqL K H1 a xs) (keep : α → Bool) (f : α → PyData)
    (hs : ∀ (i : Nat) (al : α) (x : V) (H : Hp) (Acc : VK) (No : Hp → Prop), as[i]? = some al → xs[i]? = some x → Gr none H1 H → (keep al = true → ∀ y H4, Gr none H H4 → Tp K H4 y (f al) → Acc y H4) → (keep al = false → ∀ H3, Gr none H H3 → No H3) →
      g x (wipe σ vs) H fun σ2 H2 => wipe σ2 vs = wipe σ vs ∧ tt σ2 H2 fun b H3 => if b = true then te σ2 H3 Acc else No H3)
    (hd : ∀ H ys, Gr none H1 H → H D = some (.lst ys) → TpAll K H ys ((as.filter keep).map f) → Qd H) : LcW (Itl K a) D g tt te vs σ H1 Qd :=
  lcG (K := K) (walk_list (K := K) (a := a) (xs := xs)) hn hz (σ := σ) (g := g) (tt := tt) (te := te) (vs := vs) hD (fun H h => h.sqL hx) keep f (fun i al x H H' Acc No h1 h2 h3 h4 h5 => by
    obtain ⟨e, h3⟩ := h3
    subst e
    exact hs i al x H' Acc No h1 h3 h2 h4 h5) hd
/-- over range(n) -/
theorem lcR {K : PySem.W.Frag} {n : Nat} (hz : n ≤ 100000) {g : TG} {tt : TT} {te : TE} {vs : List Nat} {σ : L2.St} {H1 : Hp} {D : Addr} {Qd : Hp → Prop} (hD : H1 D = none) (keep : Nat → Bool) (f : Nat → PyData)
    (hs : ∀ (i : Nat) (H : Hp) (Acc : VK) (No : Hp → Prop), i < n → Gr none H1 H → (keep i = true → ∀ y H4, Gr none H H4 → Tp K H4 y (f i) → Acc y H4) → (keep i = false → ∀ H3, Gr none H H3 → No H3) →
      g (.int (0 + i)) (wipe σ vs) H fun σ2 H2 => wipe σ2 vs = wipe σ vs ∧ tt σ2 H2 fun b H3 => if b = true then te σ2 H3 Acc else No H3)
    (hd : ∀ H ys, Gr none H1 H → H D = some (.lst ys) → TpAll K H ys (((List.range n).filter keep).map f) → Qd H) : LcW (Itr 0 n) D g tt te vs σ H1 Qd :=
  lcG (K := K) (walk_range (lo := 0) (n := n)) (List.length_range (n := n)) hz (σ := σ) (g := g) (tt := tt) (te := te) (vs := vs) hD (fun _ _ => trivial) keep f (fun i al x H H' Acc No h1 h2 h3 h4 h5 => by
    obtain ⟨e, h3⟩ := h3
    subst e h3
    obtain ⟨hi, e2⟩ := List.getElem?_eq_some_iff.mp h1
    rw [List.getElem_range] at e2
    subst e2
    rw [List.length_range] at hi
    exact hs i H' Acc No hi h2 h4 h5) hd
end Lk

namespace Lk
open PySem L2 GxR
/-! ### names of built-ins that stand free -/
structure Bi (mg : Str → Option Value) : Prop where
  isi : mg "isinstance" = none
  int : mg "int" = none
  bool : mg "bool" = none
  tuple : mg "tuple" = none
  list : mg "list" = none
  str : mg "str" = none
  len : mg "len" = none
  range : mg "range" = none
  all : mg "all" = none
  any : mg "any" = none
  enum : mg "enumerate" = none
  zip : mg "zip" = none
  sorted : mg "sorted" = none
  min : mg "min" = none
  abs : mg "abs" = none
abbrev top (i : Nat) : Stmt := PySem.Challenge.pw_keptandsaid_k28_ladders_of_lots.main.body.getD i (.Pass ⟨0, 0, 0, 0⟩)
/-! ### isinstance of data -/
def isI : PyData → Bool
  | .int _ => true
  | .bool _ => true
  | _ => false
def isBo : PyData → Bool
  | .bool _ => true
  | _ => false
def isTu : PyData → Bool
  | .tuple _ => true
  | _ => false
def isLi : PyData → Bool
  | .list _ => true
  | _ => false
def isSt : PyData → Bool
  | .str _ => true
  | _ => false
theorem kI (d : PyData) : kitB (tyD d) "int" = some (isI d) := by cases d <;> (dsimp only [tyD, isI]; decide +kernel)
theorem kBo (d : PyData) : kitB (tyD d) "bool" = some (isBo d) := by cases d <;> (dsimp only [tyD, isBo]; decide +kernel)
theorem kTu (d : PyData) : kitB (tyD d) "tuple" = some (isTu d) := by cases d <;> (dsimp only [tyD, isTu]; decide +kernel)
theorem kLi (d : PyData) : kitB (tyD d) "list" = some (isLi d) := by cases d <;> (dsimp only [tyD, isLi]; decide +kernel)
theorem kSt (d : PyData) : kitB (tyD d) "str" = some (isSt d) := by cases d <;> (dsimp only [tyD, isSt]; decide +kernel)
def rIs (K : PySem.W.Frag) (T : String) (g : PyData → Bool) : List V → Hp → VK → Prop := fun xs H Q => ∃ v d, xs = [v, .ty T] ∧ Dp K H v d ∧ Q (.bl (g d)) H
/-- isinstance(x, (tuple, list)) -/
def rIs2 (K : PySem.W.Frag) : List V → Hp → VK → Prop := fun xs H Q => ∃ v tp cs d, xs = [v, .ref tp] ∧ H tp = some (.tup cs) ∧ (cs = [.ty "tuple", .ty "list"] ∨ cs = [.ty "list", .ty "tuple"]) ∧ Dp K H v d ∧ Q (.bl (isTu d || isLi d)) H
section
variable {X : Cx}
theorem call_is {T : String} {g : PyData → Bool} (hk : ∀ d, kitB (tyD d) T = some (g d)) : CallR X (.builtin "isinstance") (rIs X.K T g) := fun pins s σ H xs us Q I r h => by
  obtain ⟨v, d, rfl, hd, q⟩ := h
  exact call_isi pins s σ H _ us Q I r ⟨v, .ty T, _, _, g d, rfl, .ty T, Dp.ty hd, kit_ty (hk d), q⟩
theorem call_is2 : CallR X (.builtin "isinstance") (rIs2 X.K) := fun pins s σ H xs us Q I r h => by
  obtain ⟨v, tp, cs, d, rfl, ht, hc, hd, q⟩ := h
  rcases hc with rfl | rfl
  · exact call_isiT pins s σ H _ us Q I r ⟨v, tp, _, _, [.type "tuple", .type "list"], _, rfl, ht, .cons (.ty _) (.cons (.ty _) .nil), Dp.ty hd, kitAny_cons (kit_ty (kTu d)) (fun e => kitAny_cons (kit_ty (kLi d)) (fun e2 => by rw [e, e2]; exact kitAny_nil) (fun e2 => by rw [e2, Bool.or_true])) (fun e => by rw [e, Bool.true_or]), q⟩
  · exact call_isiT pins s σ H _ us Q I r ⟨v, tp, _, _, [.type "list", .type "tuple"], _, rfl, ht, .cons (.ty _) (.cons (.ty _) .nil), Dp.ty hd, kitAny_cons (kit_ty (kLi d)) (fun e => kitAny_cons (kit_ty (kTu d)) (fun e2 => by rw [e, e2]; exact kitAny_nil) (fun e2 => by rw [e2, Bool.true_or])) (fun e => by rw [e, Bool.or_true]), q⟩
variable {e f : Expr} {ta tb : TE} {p q r pos : Pos}
theorem isi_int (B : Bi X.mg) (ha : PE X e ta) (g1 : Gl X "isinstance" := by rfl) (g2 : Gl X "int" := by rfl) (he : starEach (e :: [.Name "int" q]) X.env = (false, eval e X.env) :: starEach [.Name "int" q] X.env := by rfl) :
    PE X (.Call (.Name "isinstance" p) [e, .Name "int" q] [] pos) (tCB (rIs X.K "int" isI) (tCons ta (tCons (tC (.ty "int")) tNil))) :=
  pe_callB (call_is kI) g1 B.isi (by decide +kernel) (pa_cons ha (pa_cons (pe_bltn g2 B.int (by decide +kernel) rfl) pa_nil) he) (by decide) (by decide) he
theorem isi_bool (B : Bi X.mg) (ha : PE X e ta) (g1 : Gl X "isinstance" := by rfl) (g2 : Gl X "bool" := by rfl) (he : starEach (e :: [.Name "bool" q]) X.env = (false, eval e X.env) :: starEach [.Name "bool" q] X.env := by rfl) :
    PE X (.Call (.Name "isinstance" p) [e, .Name "bool" q] [] pos) (tCB (rIs X.K "bool" isBo) (tCons ta (tCons (tC (.ty "bool")) tNil))) :=
  pe_callB (call_is kBo) g1 B.isi (by decide +kernel) (pa_cons ha (pa_cons (pe_bltn g2 B.bool (by decide +kernel) rfl) pa_nil) he) (by decide) (by decide) he
theorem isi_tup (B : Bi X.mg) (ha : PE X e ta) (g1 : Gl X "isinstance" := by rfl) (g2 : Gl X "tuple" := by rfl) (he : starEach (e :: [.Name "tuple" q]) X.env = (false, eval e X.env) :: starEach [.Name "tuple" q] X.env := by rfl) :
    PE X (.Call (.Name "isinstance" p) [e, .Name "tuple" q] [] pos) (tCB (rIs X.K "tuple" isTu) (tCons ta (tCons (tC (.ty "tuple")) tNil))) :=
  pe_callB (call_is kTu) g1 B.isi (by decide +kernel) (pa_cons ha (pa_cons (pe_bltn g2 B.tuple (by decide +kernel) rfl) pa_nil) he) (by decide) (by decide) he
theorem isi_list (B : Bi X.mg) (ha : PE X e ta) (g1 : Gl X "isinstance" := by rfl) (g2 : Gl X "list" := by rfl) (he : starEach (e :: [.Name "list" q]) X.env = (false, eval e X.env) :: starEach [.Name "list" q] X.env := by rfl) :
    PE X (.Call (.Name "isinstance" p) [e, .Name "list" q] [] pos) (tCB (rIs X.K "list" isLi) (tCons ta (tCons (tC (.ty "list")) tNil))) :=
  pe_callB (call_is kLi) g1 B.isi (by decide +kernel) (pa_cons ha (pa_cons (pe_bltn g2 B.list (by decide +kernel) rfl) pa_nil) he) (by decide) (by decide) he
theorem isi_str (B : Bi X.mg) (ha : PE X e ta) (g1 : Gl X "isinstance" := by rfl) (g2 : Gl X "str" := by rfl) (he : starEach (e :: [.Name "str" q]) X.env = (false, eval e X.env) :: starEach [.Name "str" q] X.env := by rfl) :
    PE X (.Call (.Name "isinstance" p) [e, .Name "str" q] [] pos) (tCB (rIs X.K "str" isSt) (tCons ta (tCons (tC (.ty "str")) tNil))) :=
  pe_callB (call_is kSt) g1 B.isi (by decide +kernel) (pa_cons ha (pa_cons (pe_bltn g2 B.str (by decide +kernel) rfl) pa_nil) he) (by decide) (by decide) he
/-- len(e), a list or a tuple -/
theorem lenS (B : Bi X.mg) (ha : PE X e ta) (g1 : Gl X "len" := by rfl) (he : starEach (e :: []) X.env = (false, eval e X.env) :: starEach [] X.env := by rfl) :
    PE X (.Call (.Name "len" p) [e] [] pos) (tCB (fun xs H Q => ∃ p ys, xs = [.ref p] ∧ (SqL X.K H p ys ∨ SqT X.K H p ys) ∧ Q (.int ys.length) H) (tCons ta tNil)) :=
  pe_callB call_len_seq g1 B.len PySem.boot_len (pa_cons ha pa_nil he) (by decide) (by decide) he
end
/-! ### the same within a comprehension, the written part named -/
section
variable {X : Cx} {K : PySem.W.Frag}
theorem op_inK (h : X.K = K := by rfl) : OpR X (compareOp .In) (rIn K false) := by subst h; exact op_in_seq
theorem op_notInK (h : X.K = K := by rfl) : OpR X (compareOp .NotIn) (rIn K true) := by subst h; exact op_notIn_seq
theorem call_tuple_ofK (h : X.K = K := by rfl) : CallR X (.type "tuple") (fun xs H Q => ∃ p ys, xs = [.ref p] ∧ ((SqL K H p ys ∧ ∀ l, H l = none → Q (.ref l) (upd H l (.tup ys))) ∨ (SqT K H p ys ∧ Q (.ref p) H))) := by subst h; exact call_tuple_of
theorem pi_tupK {tg l : Expr} {tl : TE} (hl : PE X l tl) (h : X.K = K := by rfl) : PI X tg l (iTup K tl) := by subst h; exact pi_tup hl
theorem pi_listK {tg l : Expr} {tl : TE} (hl : PE X l tl) (h : X.K = K := by rfl) : PI X tg l (iList K tl) := by subst h; exact pi_list hl
theorem pe_fldK {e : Expr} {f : Str} {ta : TE} {pos : Pos} (he : PE X e ta) (h : X.K = K := by rfl) (hb : attributeBase e f X.env (eval e X.env) = eval e X.env := by rfl) : PE X (.Attribute e f pos) (tFld K ta f) := by
  subst h
  exact pe_fld he hb
theorem bk {N : List Str} {sc' scope : Scope} {own : List (Str × Nat)} (sc : Scope) (h : blkC N sc scope own = true) (e : sc' = sc := by rfl) : BlkOk N sc' scope own := by subst e; exact blkOk_by h
theorem ix_tupK (h : X.K = K := by rfl) : IxR X (rIxT K) := by subst h; exact ix_tup
theorem ix_listK (h : X.K = K := by rfl) : IxR X (rIxL K) := by subst h; exact ix_list
variable {e : Expr} {ta : TE} {p pos : Pos}
theorem lenK (B : Bi X.mg) (ha : PE X e ta) (h : X.K = K := by rfl) (g1 : Gl X "len" := by rfl) (he : starEach (e :: []) X.env = (false, eval e X.env) :: starEach [] X.env := by rfl) :
    PE X (.Call (.Name "len" p) [e] [] pos) (tCB (fun xs H Q => ∃ p ys, xs = [.ref p] ∧ (SqL K H p ys ∨ SqT K H p ys) ∧ Q (.int ys.length) H) (tCons ta tNil)) := by
  subst h
  exact lenS B ha g1 he
end
/-! ### the numbers below -/
def isB (d : PyData) (m : Int) : Bool := match d with
  | .int i => decide (0 ≤ i) && decide (i < m)
  | _ => false
def isF (d : PyData) : Bool := match d with
  | .int i => decide (i = 2) || decide (i = 3) || decide (i = 5) || decide (i = 7) || decide (i = 11) || decide (i = 13)
  | _ => false
theorem isB_t {i m : Int} (h : decide ((0 : Int) ≤ i) = true) : isB (.int i) m = decide (i < m) := by
  show (decide (0 ≤ i) && decide (i < m)) = _
  rw [h, Bool.true_and]
theorem isB_f {i m : Int} (h : ¬ decide ((0 : Int) ≤ i) = true) : isB (.int i) m = false := by
  show (decide (0 ≤ i) && decide (i < m)) = _
  rw [Bool.not_eq_true] at h
  rw [h, Bool.false_and]
abbrev sLetter : Stmt := top 21
abbrev sField : Stmt := top 22
abbrev sBelow : Stmt := top 34
theorem scLetter : FnScope ["value", "p"] ["value", "p"] (defScope sLetter) := ⟨rfl, rfl, rfl, by decide +kernel, rfl, by decide +kernel, by decide +kernel⟩
theorem scField : FnScope ["p"] ["p"] (defScope sField) := ⟨rfl, rfl, rfl, by decide +kernel, rfl, by decide +kernel, by decide +kernel⟩
theorem scBelow : FnScope ["value", "many"] ["value", "many"] (defScope sBelow) := ⟨rfl, rfl, rfl, by decide +kernel, rfl, by decide +kernel, by decide +kernel⟩
section
variable {P : Program} {w : World} {K : PySem.W.Frag} {mg : Str → Option Value} {base : Heap}
def spBelow (K : PySem.W.Frag) : Sp := fun vs H Q _ => ∃ v d m, vs = [v, .int m] ∧ Dp K H v d ∧ Q (.bl (isB d m)) H
theorem ok_letter {f : Addr} {fd : FuncData} {k : Nat} (F : Fun K "is_letter" "is_letter" sLetter f fd) (B : Bi mg) : FnOk P w K mg base CX0 (k + 1) f fd ["value", "p"] (spBelow K) := by
  refine F.ok scLetter (fun vs H Q E h => ?_) (fun cdv A outer s H vs Q E hr h => ?_)
  · obtain ⟨v, d, m, rfl, _⟩ := h
    rfl
  · obtain ⟨v, d, m, rfl, hd, q⟩ := h
    refine ⟨_, pss_one (ps_ret (pe_and (isi_int B (pv 0)) (pe_and (pe_not (isi_bool B (pv 0))) (pe_one (pe_chain op_le op_lt pe_int (pv 0) (pv 1)))))), ?_⟩
    refine ⟨v, rfl, v, d, rfl, hd, isI d, rfl, ite2 (fun e => ?_) (fun e => ?_)⟩
    · refine ⟨v, rfl, v, d, rfl, hd, isBo d, rfl, !isBo d, rfl, ite2 (fun e2 => ?_) (fun e2 => ?_)⟩
      · cases hd with
        | int i =>
          refine ⟨_, rfl, 0, i, rfl, rfl, _, rfl, ite2 (fun e3 => ?_) (fun e3 => ?_)⟩
          · refine ⟨.int m, rfl, i, m, rfl, rfl, ?_⟩
            rw [isB_t e3] at q
            exact q
          · rw [isB_f e3] at q
            exact q
        | bl b => exact Bool.noConfusion e2
        | _ => exact Bool.noConfusion e
      · cases hd with
        | bl b => exact q
        | int i => exact absurd rfl e2
        | _ => exact Bool.noConfusion e
    · cases hd with
      | int i => exact absurd rfl e
      | bl b => exact absurd rfl e
      | _ => exact q
theorem ok_below {f : Addr} {fd : FuncData} {k : Nat} (F : Fun K "is_below" "is_below" sBelow f fd) (B : Bi mg) : FnOk P w K mg base CX0 (k + 1) f fd ["value", "many"] (spBelow K) := by
  refine F.ok scBelow (fun vs H Q E h => ?_) (fun cdv A outer s H vs Q E hr h => ?_)
  · obtain ⟨v, d, m, rfl, _⟩ := h
    rfl
  · obtain ⟨v, d, m, rfl, hd, q⟩ := h
    refine ⟨_, pss_one (ps_ret (pe_and (isi_int B (pv 0)) (pe_and (pe_not (isi_bool B (pv 0))) (pe_one (pe_chain op_le op_lt pe_int (pv 0) (pv 1)))))), ?_⟩
    refine ⟨v, rfl, v, d, rfl, hd, isI d, rfl, ite2 (fun e => ?_) (fun e => ?_)⟩
    · refine ⟨v, rfl, v, d, rfl, hd, isBo d, rfl, !isBo d, rfl, ite2 (fun e2 => ?_) (fun e2 => ?_)⟩
      · cases hd with
        | int i =>
          refine ⟨_, rfl, 0, i, rfl, rfl, _, rfl, ite2 (fun e3 => ?_) (fun e3 => ?_)⟩
          · refine ⟨.int m, rfl, i, m, rfl, rfl, ?_⟩
            rw [isB_t e3] at q
            exact q
          · rw [isB_f e3] at q
            exact q
        | bl b => exact Bool.noConfusion e2
        | _ => exact Bool.noConfusion e
      · cases hd with
        | bl b => exact q
        | int i => exact absurd rfl e2
        | _ => exact Bool.noConfusion e
    · cases hd with
      | int i => exact absurd rfl e
      | bl b => exact absurd rfl e
      | _ => exact q
def primes : List Int := [2, 3, 5, 7, 11, 13]
structure Pr (K : PySem.W.Frag) (mg : Str → Option Value) : Prop where
  ex : ∃ a, mg "PRIMES" = some (.ref a) ∧ ∀ H, SqT K H a (primes.map V.int)
def spField (K : PySem.W.Frag) : Sp := fun vs H Q _ => ∃ v d, vs = [v] ∧ Dp K H v d ∧ Q (.bl (isF d)) H
theorem ok_field {f : Addr} {fd : FuncData} {k : Nat} (F : Fun K "is_field" "is_field" sField f fd) (B : Bi mg) (R : Pr K mg) : FnOk P w K mg base CX0 (k + 1) f fd ["p"] (spField K) := by
  obtain ⟨aP, mgP, sP⟩ := R.ex
  refine F.ok scField (fun vs H Q E h => ?_) (fun cdv A outer s H vs Q E hr h => ?_)
  · obtain ⟨v, d, rfl, _⟩ := h
    rfl
  · obtain ⟨v, d, rfl, hd, q⟩ := h
    refine ⟨_, pss_one (ps_ret (pe_and (isi_int B (pv 0)) (pe_and (pe_not (isi_bool B (pv 0))) (pe_one (pe_cmpR op_in_seq (pv 0) (pe_glob (v := .ref aP) (by rfl) mgP rfl) (by rfl)))))), ?_⟩
    refine ⟨v, rfl, v, d, rfl, hd, isI d, rfl, ite2 (fun e => ?_) (fun e => ?_)⟩
    · refine ⟨v, rfl, v, d, rfl, hd, isBo d, rfl, !isBo d, rfl, ite2 (fun e2 => ?_) (fun e2 => ?_)⟩
      · cases hd with
        | int i =>
          refine ⟨_, rfl, aP, _, rfl, .inr (sP H), rfl, rfl, ?_⟩
          have e4 : inV (.int i) (primes.map V.int) = isF (.int i) := by
            show (eqV (.int 2) (.int i) || (eqV (.int 3) (.int i) || (eqV (.int 5) (.int i) || (eqV (.int 7) (.int i) || (eqV (.int 11) (.int i) || (eqV (.int 13) (.int i) || false)))))) = (decide (i = 2) || decide (i = 3) || decide (i = 5) || decide (i = 7) || decide (i = 11) || decide (i = 13))
            rw [Bool.eq_iff_iff]
            simp only [eqV, Bool.or_eq_true, decide_eq_true_eq, Bool.false_eq_true, or_false, beq_iff_eq]
            omega
          rw [← e4] at q
          exact q
        | bl b => exact Bool.noConfusion e2
        | _ => exact Bool.noConfusion e
      · cases hd with
        | bl b => exact q
        | int i => exact absurd rfl e2
        | _ => exact Bool.noConfusion e
    · cases hd with
      | int i => exact absurd rfl e
      | bl b => exact absurd rfl e
      | _ => exact q
end
end Lk

namespace Lk
open PySem PySem.Spec PyProof.Rows L2 GxR
/-! ### a def whose code object is known -/
structure FunC (K : PySem.W.Frag) (x qual : Str) (st : Stmt) (f : Addr) (fd : FuncData) (c : Addr) : Prop where
  ex : ∃ (oc : Value) (od : Option Addr) (kV doc pm : Value) (an : Option Addr) (ct : Value) (osl : Array (Option Value)),
    fd = PySem.W.fnOf x qual (defArgs st) (defBody st) (defScope st) .none kV doc pm an (.ref c) ct ∧ K.lookup f = some ⟨oc, od, .func fd, osl⟩ ∧ PySem.W.codeIn K (.ref c) qual = true
  kp : PySem.W.keepIn K (.ref f) = true
section
variable {P : Program} {w : World} {K : PySem.W.Frag} {mg : Str → Option Value} {base : Heap}
theorem FunC.fn {x qual : Str} {st : Stmt} {f c : Addr} {fd : FuncData} (F : FunC K x qual st f fd c) : Fun K x qual st f fd := by
  obtain ⟨oc, od, kV, doc, pm, an, ct, osl, e, lk, hcd⟩ := F.ex
  exact ⟨⟨oc, od, kV, doc, pm, an, .ref c, ct, osl, e, lk, hcd⟩, F.kp⟩
theorem FunC.ok {x qual : Str} {st : Stmt} {f c : Addr} {fd : FuncData} {N ps : List Str} {k : Nat} {sp : Sp} (F : FunC K x qual st f fd c) (S : FnScope N ps (defScope st)) (len : ∀ vs H Q E, sp vs H Q E → vs.length = ps.length)
    (hbody : ∀ (A : Around) (outer : List Env) (s : Shared) (H : Hp) (vs : List V) (Q : VK) (E : XK), Room k (A.deeper (envOfC qual (defScope st) s.heap.objs.size f (.ref c))) → sp vs H Q E →
      ∃ t, PSs (cxOf CX0 P w K mg base N qual (defScope st) f (.ref c) A outer s H E).nox (defBody st) t ∧ t { nx := fun _ H' => Q .non H', rt := Q } (start N vs) H) : FnOk P w K mg base CX0 (k + 1) f fd ps sp := by
  obtain ⟨oc, od, kV, doc, pm, an, ct, osl, rfl, lk, hcd⟩ := F.ex
  refine fn_of lk hcd S len fun A outer s H vs Q E hr hsp => ?_
  obtain ⟨t, h, q⟩ := hbody A outer s H vs Q E hr hsp
  exact ⟨t, h.nox, q⟩
theorem room_gen {k : Nat} {A : Around} (r : Room (k + 1) A) (env : Env) : Room k (A.in1.in1.deeper env) :=
  ⟨r.hd, by have := r.dp; show A.depth + 1 + 3 * k + 5 < _; omega, by have := r.un; show A.units + 1 + 1 + 3 + 16 * k + 200 < _; omega⟩
/-- what a caller wants to know of a def -/
structure Cal (P : Program) (w : World) (K : PySem.W.Frag) (mg : Str → Option Value) (base : Heap) (CX : CXT) (k : Nat) (nm : Str) (ps : List Str) (sp : Sp) : Prop where
  ex : ∃ f fd, FnOk P w K mg base CX k f fd ps sp ∧ mg nm = some (.ref f) ∧ PySem.W.keepIn K (.ref f) = true ∧ Binds K fd ps []
def genOkB (N : List Str) (sc scope : Scope) (x : Str) : Bool :=
  (scope.kind == .function) && (scope.isCoroutine == false) && scope.names.all (fun y => decide (y.2 ≠ .cell)) && decide (scope.names.lookup (".0" : Str) = some NameKind.local) && decide (scope.names.lookup x = some .local) &&
  scope.names.all (fun y => decide (scope.names.lookup y.1 = some y.2)) && decide ((".0" : Str) ∉ N) && scope.names.all (fun y => decide (y.2 = .local → y.1 = x ∨ y.1 = ".0")) && scope.names.all (fun y => decide (y.2 = .free → sc.names.lookup y.1 = some .cell ∨ sc.names.lookup y.1 = some .free))
theorem gk (N : List Str) (sc : Scope) {scope : Scope} {x : Str} {N' : List Str} {sc' : Scope} (h : genOkB N sc scope x = true) (e1 : N' = N := by rfl) (e2 : sc' = sc := by rfl) : GA.GenOk N' sc' scope x := by
  subst e1 e2
  unfold genOkB at h
  simp only [Bool.and_eq_true, List.all_eq_true, decide_eq_true_eq, beq_iff_eq] at h
  obtain ⟨⟨⟨⟨⟨⟨⟨⟨h1, h2⟩, h3⟩, h4⟩, h5⟩, h6⟩, h7⟩, h8⟩, h9⟩ := h
  exact ⟨by cases hk : scope.kind <;> rw [hk] at h1 <;> first | rfl | exact absurd h1 (by decide), h2, h3, h4, h5, h6, h7, h8, h9⟩
/-! ### rows of letters, matrices -/
abbrev rowD (r : List Int) : PyData := .tuple (r.map PyData.int)
abbrev matD (m : List (List Int)) : PyData := .tuple (m.map rowD)
def RowOk (p n : Nat) (r : List Int) : Prop := r.length = n ∧ ∀ i ∈ r, 0 ≤ i ∧ i < (p : Int)
def MatOk (p n : Nat) (m : List (List Int)) : Prop := ∀ r ∈ m, RowOk p n r
abbrev sRow : Stmt := top 26
abbrev sMat : Stmt := top 27
abbrev sLis : Stmt := top 29
theorem scRow : FnScope ["value", "p", "columns", "letter"] ["value", "p", "columns"] (defScope sRow) := ⟨rfl, rfl, rfl, by decide +kernel, rfl, by decide +kernel, by decide +kernel⟩
theorem scMat : FnScope ["value", "p", "columns", "row"] ["value", "p", "columns"] (defScope sMat) := ⟨rfl, rfl, rfl, by decide +kernel, rfl, by decide +kernel, by decide +kernel⟩
theorem scLis : FnScope ["value", "p", "size", "part"] ["value", "p", "size"] (defScope sLis) := ⟨rfl, rfl, rfl, by decide +kernel, rfl, by decide +kernel, by decide +kernel⟩
def spRow (K : PySem.W.Frag) (T1 : Addr) : Sp := fun vs H Q _ => ∃ v r p n, vs = [v, .int (p : Nat), .int (n : Nat)] ∧ TabG H T1 ∧ Tp K H v (rowD r) ∧ RowOk p n r ∧ ∀ H', Gr none H H' → Q (.bl true) H'
def spMat (K : PySem.W.Frag) (T1 T2 : Addr) : Sp := fun vs H Q _ => ∃ v m p n, vs = [v, .int (p : Nat), .int (n : Nat)] ∧ TabG H T1 ∧ TabG H T2 ∧ Tp K H v (matD m) ∧ MatOk p n m ∧ ∀ H', Gr none H H' → Q (.bl true) H'
def spLis (K : PySem.W.Frag) (T1 T2 T3 : Addr) : Sp := fun vs H Q _ => ∃ (v : V) (ms : List (List (List Int))) (p n : Nat), vs = [v, .int p, .int n] ∧ TabG H T1 ∧ TabG H T2 ∧ TabG H T3 ∧ Tp K H v (.tuple (ms.map matD)) ∧ ms.length = 2 ∧ (∀ m ∈ ms, MatOk p n m) ∧ ∀ H', Gr none H H' → Q (.bl true) H'
theorem ok_row {f c T1 : Addr} {fd : FuncData} {k : Nat} (F : FunC K "is_row" "is_row" sRow f fd c) (B : Bi mg) (TB : GxR.TabB base mg c T1) (L : Cal P w K mg base CX0 1 "is_letter" ["value", "p"] (spBelow K)) : FnOk P w K mg base CX0 (k + 3) f fd ["value", "p", "columns"] (spRow K T1) := by
  obtain ⟨fL, fdL, okL, gL, kL, bL⟩ := L.ex
  refine F.ok scRow (fun vs H Q E h => ?_) (fun A outer s H vs Q E hr h => ?_)
  · obtain ⟨v, r, p, n, rfl, _⟩ := h
    rfl
  · obtain ⟨v, r, p, n, rfl, tG, hd, ⟨hn, hi⟩, q⟩ := h
    obtain ⟨a, rfl, hs⟩ := hd.ints
    refine ⟨_, pss_one (ps_ret (pe_and (isi_tup B (pv 0)) (pe_and (pe_cmpR op_eq (lenS B (pv 0)) (pv 2) (nomark _)) (pe_one (GA.pe_allG (i := 3) hr rfl (by rfl) B.all TB rfl scRow.nd rfl
      (gk ["value", "p", "columns", "letter"] (defScope sRow) (by decide +kernel)) (pi_tup (pv 0))
      (fun s' H' C code fp pn => pe_call okL ((room_gen hr _).mono (by omega)) (by rfl) gL kL bL .nil pass0 (pa_cons (pv 3) (pa_cons (pv 1) pa_nil)))))))), ?_⟩
    refine ⟨.ref a, rfl, .ref a, _, rfl, hd.dp, _, rfl, iteT ?_⟩
    refine ⟨.ref a, rfl, a, _, rfl, .inr hs, .int n, rfl, rfl, _, rfl, ?_⟩
    refine ite2 (fun _ => ?_) (fun z => absurd (decide_eq_true (by rw [List.length_map, hn])) z)
    refine ⟨.ref a, rfl, a, rfl, ⟨_, hs⟩, tG, n, fun j H2 => Gr none H H2, fun H2 t => Gr.tabbed tG t, fun j H2 hj g => ?_, fun H2 g => ?_⟩
    · have hj2 : j < (r.map V.int).length := by rw [List.length_map, hn]; exact hj
      refine ⟨⟨_, _, g.sqT .none hs, List.getElem?_eq_getElem hj2⟩, fun x H3 ⟨e, y⟩ => ?_⟩
      subst e
      have ex := y _ (g.sqT .none hs)
      rw [List.getElem?_map, List.getElem?_eq_getElem (by rw [hn]; exact hj)] at ex
      cases ex
      refine ⟨_, rfl, .int p, rfl, _, .int r[j], p, rfl, .int _, ?_, g⟩
      have hm := hi _ (List.getElem_mem (h := by rw [hn]; exact hj))
      show V.bl (decide _ && decide _) = V.bl true
      rw [decide_eq_true hm.1, decide_eq_true hm.2]; rfl
    · exact ⟨⟨_, g.sqT .none hs, by rw [List.length_map, hn]; exact Nat.le_refl _⟩, q H2 g⟩
theorem ok_mat {f c T1 T2 : Addr} {fd : FuncData} {k : Nat} (F : FunC K "is_matrix" "is_matrix" sMat f fd c) (B : Bi mg) (TB : GxR.TabB base mg c T2) (L : Cal P w K mg base CX0 3 "is_row" ["value", "p", "columns"] (spRow K T1)) : FnOk P w K mg base CX0 (k + 5) f fd ["value", "p", "columns"] (spMat K T1 T2) := by
  obtain ⟨fL, fdL, okL, gL, kL, bL⟩ := L.ex
  refine F.ok scMat (fun vs H Q E h => ?_) (fun A outer s H vs Q E hr h => ?_)
  · obtain ⟨v, m, p, n, rfl, _⟩ := h
    rfl
  · obtain ⟨v, m, p, n, rfl, t1, t2, hd, hi, q⟩ := h
    obtain ⟨a, xs, rfl, hs, hx⟩ := hd.tuple
    have hl := hx.length
    rw [List.length_map] at hl
    refine ⟨_, pss_one (ps_ret (pe_and (isi_tup B (pv 0)) (pe_one (GA.pe_allG (i := 3) hr rfl (by rfl) B.all TB rfl scMat.nd rfl
      (gk ["value", "p", "columns", "row"] (defScope sMat) (by decide +kernel)) (pi_tup (pv 0))
      (fun s' H' C code fp pn => pe_call okL ((room_gen hr _).mono (by omega)) (by rfl) gL kL bL .nil pass0 (pa_cons (pv 3) (pa_cons (pv 1) (pa_cons (pv 2) pa_nil)))))))), ?_⟩
    refine ⟨.ref a, rfl, .ref a, _, rfl, hd.dp, _, rfl, iteT ?_⟩
    refine ⟨.ref a, rfl, a, rfl, ⟨_, hs⟩, t2, xs.length, fun j H2 => Gr none H H2, fun H2 t => Gr.tabbed t2 t, fun j H2 hj g => ?_, fun H2 g => ?_⟩
    · refine ⟨⟨_, _, g.sqT .none hs, List.getElem?_eq_getElem hj⟩, fun x H3 ⟨e, y⟩ => ?_⟩
      subst e
      have ex := y _ (g.sqT .none hs)
      obtain ⟨d, hd1, hd2⟩ := hx.get ex
      have hjm : j < m.length := by rw [← hl]; exact hj
      rw [List.getElem?_map, List.getElem?_eq_getElem hjm] at hd1
      cases hd1
      exact ⟨x, rfl, .int p, rfl, .int n, rfl, x, m[j], p, n, rfl, g.tabG t1, hd2.gr0 g, hi _ (List.getElem_mem (h := hjm)), fun H' g' => ⟨rfl, g.trans g'⟩⟩
    · exact ⟨⟨_, g.sqT .none hs, Nat.le_refl _⟩, q H2 g⟩
theorem ok_lis {f c T1 T2 T3 : Addr} {fd : FuncData} {k : Nat} (F : FunC K "is_listener" "is_listener" sLis f fd c) (B : Bi mg) (TB : GxR.TabB base mg c T3) (L : Cal P w K mg base CX0 5 "is_matrix" ["value", "p", "columns"] (spMat K T1 T2)) : FnOk P w K mg base CX0 (k + 7) f fd ["value", "p", "size"] (spLis K T1 T2 T3) := by
  obtain ⟨fL, fdL, okL, gL, kL, bL⟩ := L.ex
  refine F.ok scLis (fun vs H Q E h => ?_) (fun A outer s H vs Q E hr h => ?_)
  · obtain ⟨v, m, p, n, rfl, _⟩ := h
    rfl
  · obtain ⟨v, m, p, n, rfl, t1, t2, t3, hd, hm2, hi, q⟩ := h
    obtain ⟨a, xs, rfl, hs, hx⟩ := hd.tuple
    have hl := hx.length
    rw [List.length_map] at hl
    refine ⟨_, pss_one (ps_ret (pe_and (isi_tup B (pv 0)) (pe_and (pe_cmpR op_eq (lenS B (pv 0)) pe_int (nomark _)) (pe_one (GA.pe_allG (i := 3) hr rfl (by rfl) B.all TB rfl scLis.nd rfl
      (gk ["value", "p", "size", "part"] (defScope sLis) (by decide +kernel)) (pi_tup (pv 0))
      (fun s' H' C code fp pn => pe_call okL ((room_gen hr _).mono (by omega)) (by rfl) gL kL bL .nil pass0 (pa_cons (pv 3) (pa_cons (pv 1) (pa_cons (pv 2) pa_nil))))))))), ?_⟩
    refine ⟨.ref a, rfl, .ref a, _, rfl, hd.dp, _, rfl, iteT ?_⟩
    refine ⟨.ref a, rfl, a, _, rfl, .inr hs, rfl, _, rfl, ?_⟩
    refine ite2 (fun _ => ?_) (fun z => absurd (decide_eq_true (by rw [hl, hm2]; rfl)) z)
    refine ⟨.ref a, rfl, a, rfl, ⟨_, hs⟩, t3, xs.length, fun j H2 => Gr none H H2, fun H2 t => Gr.tabbed t3 t, fun j H2 hj g => ?_, fun H2 g => ?_⟩
    · refine ⟨⟨_, _, g.sqT .none hs, List.getElem?_eq_getElem hj⟩, fun x H3 ⟨e, y⟩ => ?_⟩
      subst e
      have ex := y _ (g.sqT .none hs)
      obtain ⟨d, hd1, hd2⟩ := hx.get ex
      have hjm : j < m.length := by rw [← hl]; exact hj
      rw [List.getElem?_map, List.getElem?_eq_getElem hjm] at hd1
      cases hd1
      exact ⟨x, rfl, .int p, rfl, .int n, rfl, x, m[j], p, n, rfl, g.tabG t1, g.tabG t2, hd2.gr0 g, hi _ (List.getElem_mem (h := hjm)), fun H' g' => ⟨rfl, g.trans g'⟩⟩
    · exact ⟨⟨_, g.sqT .none hs, Nat.le_refl _⟩, q H2 g⟩
end
end Lk

namespace Lk
open PySem PySem.Spec PyProof.Rows L2 GxR RZ
/-! ### zip of tuples in a comprehension -/
theorem walk_zipT {K : PySem.W.Frag} {a b : Addr} {xs ys : List V} {n : Nat} (hn : n = min xs.length ys.length) : Walk (ItzT K a b) n (fun H => SqT K H a xs ∧ SqT K H b ys) (YPair (fun i => xs[i]?) (fun i => ys[i]?)) := by
  subst hn
  refine ⟨fun i _ hi q => ?_, fun _ q => ⟨xs, ys, q.1, q.2, by omega⟩, fun i H v H' _ q ⟨T, x, z, h1, h2, h3, h4, h5⟩ => ⟨T, x, z, h1, h2, h3, h4 xs q.1, h5 ys q.2⟩⟩
  exact ⟨xs, ys, xs[i]'(by omega), ys[i]'(by omega), q.1, q.2, List.getElem?_eq_getElem _, List.getElem?_eq_getElem _⟩
theorem lcZ {K : PySem.W.Frag} {α : Type} {a b : Addr} {xs ys : List V} {as : List α} {n : Nat} (hm : n = min xs.length ys.length) (hn : as.length = n) (hz : n ≤ 100000) {g : TG} {tt : TT} {te : TE} {vs : List Nat} {σ : L2.St} {H1 : Hp} {D : Addr} {Qd : Hp → Prop} (hD : H1 D = none)
    (hx : SqT K H1 a xs) (hy : SqT K H1 b ys) (keep : α → Bool) (f : α → PyData)
    (hs : ∀ (i : Nat) (al : α) (x y : V) (T : Addr) (H : Hp) (Acc : VK) (No : Hp → Prop), as[i]? = some al → xs[i]? = some x → ys[i]? = some y → Gr none H1 H → H T = none → (keep al = true → ∀ y H4, Gr none H H4 → Tp K H4 y (f al) → Acc y H4) → (keep al = false → ∀ H3, Gr none H H3 → No H3) →
      g (.ref T) (wipe σ vs) (upd H T (.tup [x, y])) fun σ2 H2 => wipe σ2 vs = wipe σ vs ∧ tt σ2 H2 fun b H3 => if b = true then te σ2 H3 Acc else No H3)
    (hd : ∀ H ys, Gr none H1 H → H D = some (.lst ys) → TpAll K H ys ((as.filter keep).map f) → Qd H) : LcW (ItzT K a b) D g tt te vs σ H1 Qd :=
  lcG (K := K) (walk_zipT (K := K) (a := a) (b := b) (xs := xs) (ys := ys) hm) hn hz (σ := σ) (g := g) (tt := tt) (te := te) (vs := vs) hD (fun H h => ⟨h.sqT .none hx, h.sqT .none hy⟩) keep f (fun i al x H H' Acc No h1 h2 h3 h4 h5 => by
    obtain ⟨T, x1, y1, e1, e2, e3, e4, e5⟩ := h3
    subst e1 e3
    exact hs i al x1 y1 T H Acc No h1 e4 e5 h2 e2 h4 h5) hd
theorem pg_tupK {X : Cx} {K : PySem.W.Frag} {pos : Pos} {es : List Expr} {k : Nat} {t : TGs} {n : Nat} (hc : X.calm = true) (h : PGs X es t) (e : X.K = K := by rfl)
    (hn : (assignEach es X.env).length = n := by rfl) (hst : (assignEach es X.env).findIdx? (·.1) = none := by rfl) : PG X (.Tuple es k pos) (gTup K n t) := by
  subst e
  exact pg_tup hc h hn hst
/-! ### lots -/
def iOf : PyData → Int
  | .int i => i
  | _ => 0
def risB : List Int → Bool
  | x :: y :: r => decide (x < y) && risB (y :: r)
  | _ => true
def lotB (d : PyData) (n : Int) : Bool := match d with
  | .tuple ds => ds.all (fun d => isB d n) && risB (ds.map iOf)
  | _ => false
theorem isB_int {d : PyData} {m : Int} (h : isB d m = true) : d = .int (iOf d) := by
  cases d <;> first | rfl | exact Bool.noConfusion h
theorem all_isB {ds : List PyData} {m : Int} (h : ds.all (fun d => isB d m) = true) : ds = (ds.map iOf).map PyData.int := by
  rw [List.map_map]
  conv => lhs; rw [← List.map_id ds]
  refine List.map_congr_left fun d hd => ?_
  exact isB_int (List.all_eq_true.mp h d hd)
theorem risB_range : ∀ ns : List Int, ((List.range (ns.length - 1)).map fun i => decide (ns.getD i 0 < ns.getD (i + 1) 0)).all id = risB ns
  | [] => rfl
  | [_] => rfl
  | x :: y :: r => by
    show ((List.range (r.length + 1)).map _).all id = _
    rw [List.range_succ_eq_map, List.map_cons, List.all_cons, List.map_map]
    show (decide (x < y) && _) = (decide (x < y) && risB (y :: r))
    rw [← risB_range (y :: r)]
    rfl
theorem DpAll.ints : ∀ {K : PySem.W.Frag} {H : Hp} {vs : List V} {ns : List Int}, DpAll K H vs (ns.map PyData.int) → vs = ns.map V.int
  | _, _, [], [], _ => rfl
  | _, _, _ :: _, [], h => by cases h
  | _, _, [], _ :: _, h => by cases h
  | _, _, v :: vs, n :: ns, h => by
    cases h with
    | cons h t =>
      cases h
      rw [List.map_cons, DpAll.ints t]
theorem DpAll.get : ∀ {K : PySem.W.Frag} {H : Hp} {vs : List V} {ds : List PyData} {i : Nat} {v : V}, DpAll K H vs ds → vs[i]? = some v → ∃ d, ds[i]? = some d ∧ Dp K H v d
  | _, _, _, _, _, _, .nil, e => by simp at e
  | _, _, _, _, 0, _, .cons h _, e => by simp at e; subst e; exact ⟨_, rfl, h⟩
  | _, _, _, _, i + 1, v, .cons _ t, e => by
    obtain ⟨d, h1, h2⟩ := DpAll.get (i := i) (v := v) t (by simpa using e)
    exact ⟨d, by simpa using h1, h2⟩
theorem DpAll.len : ∀ {K : PySem.W.Frag} {H : Hp} {vs : List V} {ds : List PyData}, DpAll K H vs ds → vs.length = ds.length
  | _, _, _, _, .nil => rfl
  | _, _, _, _, .cons _ t => by rw [List.length_cons, List.length_cons, DpAll.len t]
mutual
theorem Dp.gr {K : PySem.W.Frag} {H H' : Hp} (g : Gr none H H') : ∀ {v : V} {d : PyData}, Dp K H v d → Dp K H' v d
  | _, _, .non => .non
  | _, _, .bl b => .bl b
  | _, _, .int i => .int i
  | _, _, .str s => .str s
  | _, _, .lst h t => .lst (g.sqL h) (DpAll.gr g t)
  | _, _, .tup h t => .tup (g.sqT .none h) (DpAll.gr g t)
theorem DpAll.gr {K : PySem.W.Frag} {H H' : Hp} (g : Gr none H H') : ∀ {vs : List V} {ds : List PyData}, DpAll K H vs ds → DpAll K H' vs ds
  | _, _, .nil => .nil
  | _, _, .cons h t => .cons (Dp.gr g h) (DpAll.gr g t)
end
section
variable {P : Program} {w : World} {K : PySem.W.Frag} {mg : Str → Option Value} {base : Heap}
/-! ### one_row -/
def unitR (n : Nat) (ps : List Int) : List Int := (List.range n).map fun (j : Nat) => if (j : Int) ∈ ps then 1 else 0
abbrev sOne : Stmt := top 36
theorem scOne : FnScope ["size", "places", "place"] ["size", "places"] (defScope sOne) := ⟨rfl, rfl, rfl, by decide +kernel, rfl, by decide +kernel, by decide +kernel⟩
def spOne (K : PySem.W.Frag) : Sp := fun vs H Q _ => ∃ (v : V) (n : Nat) (ps : List Int), vs = [.int n, v] ∧ n ≤ 12 ∧ Tp K H v (rowD ps) ∧ ∀ H' y, Gr none H H' → Tp K H' y (rowD (unitR n ps)) → Q y H'
theorem inV_ints (i : Int) (ps : List Int) : inV (.int i) (ps.map V.int) = decide (i ∈ ps) := by
  induction ps with
  | nil => rfl
  | cons a r ih =>
    show (eqV (.int a) (.int i) || inV (.int i) (r.map V.int)) = _
    rw [ih]
    show ((a == i) || _) = _
    rw [Bool.eq_iff_iff]
    simp only [Bool.or_eq_true, beq_iff_eq, decide_eq_true_eq, List.mem_cons]
    constructor
    · rintro (h | h)
      · exact .inl h.symm
      · exact .inr h
    · rintro (h | h)
      · exact .inl h.symm
      · exact .inr h
theorem flat_ints (ps : List Int) : (ps.map V.int).all flatV = true := by
  rw [List.all_eq_true]
  intro x hx
  obtain ⟨i, _, rfl⟩ := List.mem_map.mp hx
  rfl
/-- tuple(list just made) -/
theorem tp_tuple {H : Hp} {D l : Addr} {ys : List V} {ds : List PyData} (hl : H l = none) (t : TpAll K H ys ds) : Tp K (upd H l (.tup ys)) (.ref l) (.tuple ds) :=
  .tup (.inl (.inl upd_same)) (t.gr0 (Gr.new hl))
theorem ok_one {f : Addr} {fd : FuncData} {k : Nat} (F : Fun K "one_row" "one_row" sOne f fd) (B : Bi mg) : FnOk P w K mg base CX0 (k + 1) f fd ["size", "places"] (spOne K) := by
  refine F.ok scOne (fun vs H Q E h => ?_) (fun cdv A outer s H vs Q E hr h => ?_)
  · obtain ⟨v, n, ps, rfl, _⟩ := h
    rfl
  · obtain ⟨v, n, ps, rfl, hn, hd, q⟩ := h
    obtain ⟨a, rfl, hs⟩ := hd.ints
    refine ⟨_, pss_one (ps_ret (pe_callTy call_tuple_of (by rfl) B.tuple (by decide +kernel) (pa_cons (pe_lc (own := [("place", 2)]) (g := gName 2) (tt := tYes) rfl scOne.nd (pi_range1 (by rfl) B.range (pa_cons (pv 0) pa_nil))
      (blkOk_by (N := ["size", "places", "place"]) (sc := defScope sOne) (by decide +kernel)) (fun _ _ _ _ _ => pg_name (i := 2) scOne.nd rfl (Or.inl rfl)) (fun _ _ _ _ _ => pts_nil)
      (fun _ _ _ _ _ => pe_callTy call_int1 (by rfl) B.int (by decide +kernel) (pa_cons (pe_cmpR (op_inK (K := K)) (pv 2) (pv 1) (by rfl)) pa_nil))) pa_nil))), ?_⟩
    refine ⟨.int n, rfl, n, rfl, by omega, by omega, fun D hD => ?_⟩
    refine lcR (K := K) (n := n) (by omega) hD (fun _ => true) (fun j => .int (if (j : Int) ∈ ps then 1 else 0)) (fun i H1 Acc No hi g ha _ => ?_) (fun H1 ys g e t => ?_)
    · refine ⟨rfl, .int (0 + i), rfl, .ref a, rfl, a, _, rfl, .inr (g.sqT .none hs), rfl, flat_ints ps, .inr ⟨_, rfl, ?_⟩⟩
      refine ha rfl _ _ Gr.refl ?_
      rw [inV_ints, Int.zero_add]
      by_cases h : (i : Int) ∈ ps
      · rw [if_pos h]; simp [h]; exact .int _
      · rw [if_neg h]; simp [h]; exact .int _
    · refine ⟨D, ys, rfl, .inl ⟨SqL.of e, fun l hl => ?_⟩⟩
      refine q _ _ (g.trans (Gr.new hl)) ?_
      have := tp_tuple (D := D) hl t
      rw [List.filter_eq_self.mpr (fun _ _ => rfl)] at this
      unfold unitR
      rw [rowD, List.map_map]
      exact this
/-! ### is_lot -/
abbrev sLot : Stmt := top 35
theorem scLot : FnScope ["value", "size", "place", "one", "after"] ["value", "size"] (defScope sLot) := ⟨rfl, rfl, rfl, by decide +kernel, rfl, by decide +kernel, by decide +kernel⟩
def spLot (K : PySem.W.Frag) : Sp := fun vs H Q _ => ∃ (v : V) (d : PyData) (n : Int), vs = [v, .int n] ∧ Dp K H v d ∧ (∀ ds, d = .tuple ds → ds.length ≤ 1000) ∧ ∀ H', Gr none H H' → Q (.bl (lotB d n)) H'
theorem ok_lot {f : Addr} {fd : FuncData} {k : Nat} (F : Fun K "is_lot" "is_lot" sLot f fd) (B : Bi mg) (L : Cal P w K mg base CX0 1 "is_below" ["value", "many"] (spBelow K)) : FnOk P w K mg base CX0 (k + 3) f fd ["value", "size"] (spLot K) := by
  obtain ⟨fL, fdL, okL, gL, kL, bL⟩ := L.ex
  refine F.ok scLot (fun vs H Q E h => ?_) (fun cdv A outer s H vs Q E hr h => ?_)
  · obtain ⟨v, d, n, rfl, _⟩ := h
    rfl
  · obtain ⟨v, d, n, rfl, hd, hz, q⟩ := h
    refine ⟨_, pss_cons (ps_if (PW.pt (pw_or (pt_not (pt_val (isi_tup B (pv 0)))) (pw_or1 (pt_not (pt_val (pe_callB (cr_all rfl) (by rfl) B.all (by decide +kernel) (pa_cons
          (pe_lc (own := [("place", 2)]) (g := gName 2) (tt := tYes) rfl scLot.nd (pi_tup (pv 0))
      (blkOk_by (N := ["value", "size", "place", "one", "after"]) (sc := defScope sLot) (by decide +kernel)) (fun _ _ _ _ _ => pg_name (i := 2) scLot.nd rfl (Or.inl rfl)) (fun _ _ _ _ _ => pts_nil)
      (fun _ _ _ _ _ => pe_call okL (hr.mono (by omega)) (by rfl) gL kL bL .nil pass0 (pa_cons (pv 2) (pa_cons (pv 1) pa_nil)))) pa_nil))))))) (pss_one (ps_ret pe_bl)) pss_nil)
      (pss_one (ps_ret (pe_callB (cr_all rfl) (by rfl) B.all (by decide +kernel) (pa_cons
          (pe_lc (own := [("one", 3), ("after", 4)]) (g := gTup K 2 (gCons (gName 3) (gCons (gName 4) gNil))) (tt := tYes) rfl scLot.nd (pi_zipA (by rfl) B.zip (pa_cons (pv 0) (pa_cons (pe_slice sl_tupA (pv 0) (po_some pe_int) po_none) pa_nil)))
      (blkOk_by (N := ["value", "size", "place", "one", "after"]) (sc := defScope sLot) (by decide +kernel)) (fun _ _ _ _ _ => pg_tupK rfl (pgs_cons (pg_name (i := 3) scLot.nd rfl (Or.inl rfl)) (pgs_cons (pg_name (i := 4) scLot.nd rfl (Or.inl rfl)) pgs_nil))) (fun _ _ _ _ _ => pts_nil)
      (fun _ _ _ _ _ => pe_cmp (pc_lt (pv 3) (pv 4)) rfl)) pa_nil)))), ?_⟩
    refine ⟨v, rfl, v, d, rfl, hd, isTu d, rfl, ite2 (fun e => ?_) (fun e => ?_)⟩
    · -- no tuple
      have e2 : lotB d n = false := by
        cases d <;> first | rfl | exact Bool.noConfusion e
      have := q H Gr.refl
      rw [e2] at this
      exact this
    · cases hd with
      | @tup a xs ds hs hx =>
        have hl := DpAll.len hx
        have hz := hz ds rfl
        refine ⟨.ref a, rfl, a, rfl, ⟨_, hs⟩, fun D hD => ?_⟩
        refine lcT (K := K) (as := ds) hl.symm (by omega) hD hs (fun _ => true) (fun d => .bool (isB d n)) (fun i al x H1 Acc No h1 h2 g ha _ => ?_) (fun H1 ys g e1 t => ?_)
        · obtain ⟨d2, e3, hd2⟩ := DpAll.get hx h2
          rw [h1] at e3; cases e3
          exact ⟨rfl, x, rfl, .int n, rfl, x, _, n, rfl, Dp.gr g hd2, ha rfl _ _ Gr.refl (.bl _)⟩
        · rw [List.filter_eq_self.mpr (fun _ _ => rfl)] at t
          have e4 := TpAll.bls (ns := ds.map fun d => isB d n) (by rw [List.map_map]; exact t)
          subst e4
          refine ⟨D, _, rfl, SqL.of e1, _, rfl, ite2 (fun e5 => ?_) (fun e5 => ?_)⟩
          · have e6 : lotB (.tuple ds) n = false := by
              show (ds.all _ && _) = false
              rw [List.all_map] at e5
              have e7 : (ds.all fun d => isB d n) = false := by
                cases hh : (ds.all fun d => isB d n) with
                | false => rfl
                | true =>
                  have e5' : (!(ds.all fun d => isB d n)) = true := e5
                  rw [hh] at e5'; cases e5'
              rw [e7]; rfl
            have := q H1 g
            rw [e6] at this
            exact this
          · have e7 : (ds.all fun d => isB d n) = true := by
              rw [List.all_map] at e5
              cases hh : (ds.all fun d => isB d n) with
              | true => rfl
              | false => exact absurd (show (!(ds.all fun d => isB d n)) = true by rw [hh]; rfl) e5
            have e8 := all_isB e7
            have e9 : xs = (ds.map iOf).map V.int := by
              rw [e8] at hx
              exact DpAll.ints hx
            have e10 : lotB (.tuple ds) n = risB (ds.map iOf) := by
              show (ds.all _ && _) = _
              rw [e7]; rfl
            rw [e10] at q
            generalize ds.map iOf = ns at *
            subst e9
            have hs1 : SqT K H1 a (ns.map V.int) := g.sqT .none hs
            have hln : ns.length ≤ 1000 := by rw [List.length_map] at hl; omega
            have ends : ∀ (b : Addr) (H2 : Hp), Gr none H1 H2 → SqT K H2 b (ns.map V.int).tail → ∀ D2, H2 D2 = none → LcW (ItzT K a b) D2 (gTup K 2 (gCons (gName 3) (gCons (gName 4) gNil))) tYes (tLt (tVar 3) (tVar 4)) [3, 4] (start ["value", "size", "place", "one", "after"] [.ref a, .int n]) H2 fun H3 => rAll K [.ref D2] H3 Q := fun b H2 g2 hb D2 hD2 => by
              refine lcZ (K := K) (as := List.range (ns.length - 1)) (n := ns.length - 1) (by rw [List.length_tail, List.length_map]; omega) (List.length_range ..) (by omega) hD2 (g2.sqT .none hs1) hb (fun _ => true) (fun i => .bool (decide (ns.getD i 0 < ns.getD (i + 1) 0)))
                (fun i al x y T H4 Acc No h1 h2 h3 g4 hT ha _ => ?_) (fun H4 ys g4 e1 t => ?_)
              · obtain ⟨hi, e11⟩ := List.getElem?_eq_some_iff.mp h1
                rw [List.getElem_range] at e11
                subst e11
                rw [List.length_range] at hi
                rw [List.getElem?_map, List.getElem?_eq_getElem (by omega)] at h2
                rw [List.getElem?_tail, List.getElem?_map, List.getElem?_eq_getElem (by omega)] at h3
                cases h2; cases h3
                refine ⟨T, _, rfl, .inl (.inl upd_same), rfl, _, _, rfl, _, _, rfl, rfl, rfl, _, rfl, _, rfl, _, _, rfl, rfl, ha rfl _ _ (Gr.new hT) ?_⟩
                rw [List.getD_eq_getElem?_getD, List.getD_eq_getElem?_getD, List.getElem?_eq_getElem (by omega), List.getElem?_eq_getElem (by omega)]
                exact .bl _
              · rw [List.filter_eq_self.mpr (fun _ _ => rfl)] at t
                have e4 := TpAll.bls (ns := (List.range (ns.length - 1)).map fun i => decide (ns.getD i 0 < ns.getD (i + 1) 0)) (by rw [List.map_map]; exact t)
                subst e4
                refine ⟨D2, _, rfl, SqL.of e1, ?_⟩
                rw [risB_range]
                exact q _ ((g.trans g2).trans g4)
            refine ⟨.ref a, rfl, .ref a, rfl, 1, rfl, a, _, rfl, hs1, fun wh => ?_, fun nw p hp => ?_⟩
            · have e11 : ns = [] := by
                cases ns with
                | nil => rfl
                | cons x r =>
                  have w1 := wh.1
                  rw [show HT.sIx ((x :: r).map V.int).length 0 (some 1) = min 1 ((x :: r).map V.int).length from HT.sIx_nat _ 0 1, List.length_map, List.length_cons] at w1
                  omega
              subst e11
              exact ⟨a, a, _, _, rfl, .inr ⟨hs1, hs1, ends a H1 Gr.refl hs1⟩⟩
            · refine ⟨a, p, _, _, rfl, .inr ⟨(Gr.new hp).sqT .none hs1, .inl (.inl upd_same), ends p _ (Gr.new hp) ?_⟩⟩
              have e12 : cutV (ns.map V.int) (some 1) none = (ns.map V.int).tail := by
                unfold cutV
                rw [show HT.sIx (ns.map V.int).length 0 (some 1) = min 1 (ns.map V.int).length from HT.sIx_nat _ 0 1, HT.sIx_none]
                cases ns with
                | nil => rfl
                | cons x r =>
                  rw [show min 1 ((x :: r).map V.int).length = 1 by rw [List.length_map, List.length_cons]; omega]
                  show List.take (((x :: r).map V.int).length - 1) (r.map V.int) = r.map V.int
                  rw [List.length_map, List.length_cons, Nat.add_sub_cancel, List.take_of_length_le (by rw [List.length_map]; exact Nat.le_refl _)]
              rw [e12]
              exact .inl (.inl upd_same)
      | _ => exact absurd rfl e
end
end Lk

namespace Lk
open PySem PySem.Spec PyProof.Rows L2 GxR RZ
theorem walk_enumT {K : PySem.W.Frag} {a : Addr} {xs : List V} : Walk (ET.IteT K a) xs.length (fun H => SqT K H a xs) (YPair (fun i => some (.int (i : Nat))) (fun i => xs[i]?)) := by
  refine ⟨fun i _ hi q => ⟨xs, xs[i], q, by simp [hi]⟩, fun _ q => ⟨xs, q, Nat.le_refl _⟩, fun i H v H' _ q y => ?_⟩
  obtain ⟨T, x, h1, h2, h3, h4⟩ := y
  exact ⟨T, .int (i : Nat), x, h1, h2, h3, rfl, h4 xs q⟩
theorem isB_of {i m : Int} (h0 : 0 ≤ i) (h1 : i < m) : isB (.int i) m = true := by
  show (decide (0 ≤ i) && decide (i < m)) = true
  rw [decide_eq_true h0, decide_eq_true h1]; rfl
/-! ### arcs -/
abbrev arcD (p : Int × Int) : PyData := .tuple ([p.1, p.2].map PyData.int)
abbrev arcsD (arcs : List (Int × Int)) : PyData := .tuple (arcs.map arcD)
structure ArcsOk (n : Nat) (arcs : List (Int × Int)) : Prop where
  mem : ∀ p ∈ arcs, 0 ≤ p.1 ∧ p.1 < n ∧ 0 ≤ p.2 ∧ p.2 < n ∧ p.1 ≠ p.2
  ris : arcs.Pairwise fun p q => SrtO.lexB p q = true
  len : arcs.length ≤ 1000
abbrev knowsI (arcs : List (Int × Int)) (i : Int) : List Int := (arcs.filter fun p => decide (p.1 = i)).map (·.2)
section
variable {P : Program} {w : World} {K : PySem.W.Frag} {mg : Str → Option Value} {base : Heap}
abbrev sWrong : Stmt := top 37
theorem scWrong : FnScope ["size", "arcs", "ahead", "number", "arc", "place"] ["size", "arcs"] (defScope sWrong) := ⟨rfl, rfl, rfl, by decide +kernel, rfl, by decide +kernel, by decide +kernel⟩
def spWrong (K : PySem.W.Frag) : Sp := fun vs H Q _ => ∃ (v : V) (arcs : List (Int × Int)) (n : Nat), vs = [.int n, v] ∧ Tp K H v (arcsD arcs) ∧ ArcsOk n arcs ∧ ∀ H', Gr none H H' → Q .non H'
/-- the arc ahead of turn i -/
def aheadOf (arcs : List (Int × Int)) : Nat → Int × Int
  | 0 => (-1, -1)
  | i + 1 => arcs.getD i (0, 0)
theorem ahead_lt {n : Nat} {arcs : List (Int × Int)} (h : ArcsOk n arcs) {i : Nat} (hi : i < arcs.length) : SrtO.lexB (aheadOf arcs i) arcs[i] = true := by
  cases i with
  | zero =>
    have := h.mem _ (List.getElem_mem hi)
    rw [SrtO.lexB_iff]
    left
    show -1 < _
    omega
  | succ j =>
    show SrtO.lexB (arcs.getD j (0, 0)) _ = true
    rw [List.getD_eq_getElem?_getD, List.getElem?_eq_getElem (by omega)]
    exact List.pairwise_iff_getElem.mp h.ris j (j + 1) (by omega) hi (by omega)
theorem le_false {p q : Int × Int} (h : SrtO.lexB p q = true) : Ob.lexAt (fun j => decide ([q.1, q.2].getD j 0 = [p.1, p.2].getD j 0)) (fun j => decide ([q.1, q.2].getD j 0 ≤ [p.1, p.2].getD j 0)) (decide ([q.1, q.2].length ≤ [p.1, p.2].length)) 0 (min [q.1, q.2].length [p.1, p.2].length) = false := by
  rw [SrtO.lexB_iff] at h
  show (if decide (q.1 = p.1) = true then (if decide (q.2 = p.2) = true then _ else decide (q.2 ≤ p.2)) else decide (q.1 ≤ p.1)) = false
  by_cases e : q.1 = p.1
  · rw [if_pos (decide_eq_true e), if_neg (by rw [decide_eq_true_eq]; omega), decide_eq_false_iff_not]
    omega
  · rw [if_neg (by rw [decide_eq_true_eq]; exact e), decide_eq_false_iff_not]
    omega
theorem ok_wrong {f : Addr} {fd : FuncData} {k : Nat} (F : Fun K "first_wrong_arc" "first_wrong_arc" sWrong f fd) (B : Bi mg) (L : Cal P w K mg base CX0 1 "is_below" ["value", "many"] (spBelow K)) : FnOk P w K mg base CX0 (k + 3) f fd ["size", "arcs"] (spWrong K) := by
  obtain ⟨fL, fdL, okL, gL, kL, bL⟩ := L.ex
  refine F.ok scWrong (fun vs H Q E h => ?_) (fun cdv A outer s H vs Q E hr h => ?_)
  · obtain ⟨v, arcs, n, rfl, _⟩ := h
    rfl
  · obtain ⟨v, arcs, n, rfl, hd, ha, q⟩ := h
    obtain ⟨a, xs, rfl, hs, hx⟩ := hd.tuple
    have hl := hx.length
    rw [List.length_map] at hl
    refine ⟨_, pss_cons (ps_if (pt_not (pt_val (pe_callB call_is2 (by rfl) B.isi (by decide +kernel) (pa_cons (pv 1) (pa_cons (pe_tup (pa_cons (pe_bltn (v := .ty "list") (u := .type "list") (by rfl) B.list (by decide +kernel) rfl) (pa_cons (pe_bltn (v := .ty "tuple") (u := .type "tuple") (by rfl) B.tuple (by decide +kernel) rfl) pa_nil))) pa_nil))))) (pss_one ps_never) pss_nil)
      (pss_cons (ps_set (i := 2) scWrong.nd rfl (Or.inl rfl) (pe_tup (pa_cons (pe_un un_neg pe_int) (pa_cons (pe_un un_neg pe_int) pa_nil))))
      (pss_cons (ps_for PassesOwn.never rfl (ET.pi_enumT (by rfl) B.enum (pa_cons (pv 1) pa_nil)) (pg_tup rfl (pgs_cons (pg_name (i := 3) scWrong.nd rfl (Or.inl rfl)) (pgs_cons (pg_name (i := 4) scWrong.nd rfl (Or.inl rfl)) pgs_nil)))
        (pss_cons (ps_if (PW.pt (pw_or (pt_not (pt_val (isi_tup B (pv 4)))) (pw_or (pt_cmpR op_ne (lenS B (pv 4)) pe_int (nomark _)) (pw_or1 (pt_not (pt_val (pe_callB (cr_all rfl) (by rfl) B.all (by decide +kernel) (pa_cons
            (pe_lc (own := [("place", 5)]) (g := gName 5) (tt := tYes) rfl scWrong.nd (pi_tup (pv 4))
              (blkOk_by (N := ["size", "arcs", "ahead", "number", "arc", "place"]) (sc := defScope sWrong) (by decide +kernel)) (fun _ _ _ _ _ => pg_name (i := 5) scWrong.nd rfl (Or.inl rfl)) (fun _ _ _ _ _ => pts_nil)
              (fun _ _ _ _ _ => pe_call okL (hr.mono (by omega)) (by rfl) gL kL bL .nil pass0 (pa_cons (pv 5) (pa_cons (pv 0) pa_nil)))) pa_nil)))))))) (pss_one ps_never) pss_nil)
        (pss_cons (ps_if (PW.pt (pw_or (pt_cmpR op_eq (pe_ix ix_tup (pv 4) pe_int (fun _ _ => rfl)) (pe_ix ix_tup (pv 4) pe_int (fun _ _ => rfl)) (nomark _)) (pw_or1 (pt_cmpR (op_leT hr.units0) (pv 4) (pv 2) (nomark _))))) (pss_one ps_never) pss_nil)
        (pss_one (ps_set (i := 2) scWrong.nd rfl (Or.inl rfl) (pv 4))))))
      (pss_one (ps_ret pe_non)))), ?_⟩
    refine ⟨.ref a, rfl, by show 2 ≤ sizeLine; decide, fun t ht => ?_⟩
    have g1 : Gr none H (upd H t (.tup [.ty "list", .ty "tuple"])) := Gr.new ht
    refine ⟨_, t, _, _, rfl, upd_same, .inr rfl, (hd.gr0 g1).dp, _, rfl, iteF ?_⟩
    refine ⟨1, rfl, 1, rfl, by show 2 ≤ sizeLine; decide, fun t2 ht2 => ?_⟩
    have g2 := g1.trans (Gr.new (o := .tup [V.int (-1), V.int (-1)]) ht2)
    refine ⟨.ref a, rfl, a, xs, rfl, g2.sqT .none hs, ?_⟩
    refine for_it walk_enumT (fun i σ H2 => Gr none H H2 ∧ ∃ (y : Addr) (y3 y4 y5 : Option V), σ = [some (.int n), some (.ref a), some (.ref y), y3, y4, y5] ∧ SqT K H2 y ([(aheadOf arcs i).1, (aheadOf arcs i).2].map V.int))
      ⟨g2, t2, none, none, none, rfl, .inl (.inl upd_same)⟩ (fun i σ H2 _ h => h.1.sqT .none hs) (fun i x σ H2 H3 hi h y => ?_) fun σ H2 h => q H2 h.1
    obtain ⟨g, ya, y3, y4, y5, rfl, hy⟩ := h
    obtain ⟨T, x1, x2, rfl, hT, rfl, ex1, ex2⟩ := y
    cases ex1
    have hi2 : i < arcs.length := by omega
    obtain ⟨d, hd1, hd2⟩ := hx.get ex2
    rw [List.getElem?_map, List.getElem?_eq_getElem hi2] at hd1
    cases hd1
    have am := ha.mem _ (List.getElem_mem hi2)
    have al := ahead_lt ha hi2
    generalize aheadOf arcs i = ah at *
    have hnx : aheadOf arcs (i + 1) = arcs[i] := by
      show arcs.getD i (0, 0) = _
      rw [List.getD_eq_getElem?_getD, List.getElem?_eq_getElem hi2]; rfl
    generalize arcs[i] = arc at *
    have g3 : Gr none H2 (upd H2 T (.tup [V.int (i : Nat), x2])) := Gr.new hT
    have hd3 := hd2.gr0 (g.trans g3)
    refine ⟨T, _, rfl, .inl (.inl upd_same), rfl, _, _, rfl, _, _, rfl, rfl, ?_⟩
    obtain ⟨b, rfl, hb⟩ := hd3.ints
    refine ⟨.ref b, rfl, .ref b, _, rfl, hd3.dp, _, rfl, iteF ?_⟩
    refine ⟨.ref b, rfl, b, _, rfl, .inr hb, rfl, _, rfl, iteF ?_⟩
    refine ⟨.ref b, rfl, b, rfl, ⟨_, hb⟩, fun D hD => ?_⟩
    refine lcT (K := K) (as := [arc.1, arc.2]) (xs := [arc.1, arc.2].map V.int) rfl (show 2 ≤ 100000 by decide) hD hb (fun _ => true) (fun _ => .bool true) (fun j al2 x H4 Acc No h1 h2 g4 hac _ => ?_) (fun H4 ys g4 e1 t4 => ?_)
    · rw [List.getElem?_map, h1] at h2
      cases h2
      refine ⟨rfl, _, rfl, .int n, rfl, _, .int al2, n, rfl, .int _, hac rfl _ _ Gr.refl ?_⟩
      have e : isB (.int al2) n = true := by
        have hm : al2 ∈ [arc.1, arc.2] := List.mem_of_getElem? h1
        simp only [List.mem_cons, List.not_mem_nil, or_false] at hm
        show (decide _ && decide _) = true
        rw [Bool.and_eq_true, decide_eq_true_eq, decide_eq_true_eq]
        rcases hm with e | e <;> subst e <;> omega
      rw [e]
      exact .bl true
    · have e4 := TpAll.bls (ns := [true, true]) t4
      subst e4
      refine ⟨D, _, rfl, SqL.of e1, _, rfl, iteF ?_⟩
      have hb4 := g4.sqT .none hb
      refine ⟨.ref b, rfl, b, _, 0, .int arc.1, rfl, rfl, hb4, atI_nat (j := 0) rfl, .ref b, rfl, b, _, 1, .int arc.2, rfl, rfl, hb4, atI_nat (j := 1) rfl, rfl, _, rfl, ?_⟩
      refine ite2 (fun z => absurd (of_decide_eq_true z) (fun z => am.2.2.2.2 (V.int.inj z))) fun _ => ?_
      have gy := (g3.trans g4).sqT .none hy
      refine ⟨.ref b, rfl, .ref ya, rfl, b, ya, _, _, rfl, rfl, hb4, gy, _, rfl, ?_⟩
      rw [le_false al]
      refine iteF ?_
      refine ⟨.ref b, rfl, (g.trans g3).trans g4, b, _, _, _, rfl, ?_⟩
      rw [hnx]
      exact hb4
/-! ### a net -/
structure NetT (K : PySem.W.Frag) (mg : Str → Option Value) (C : Addr) : Prop where
  cl : Cls K C
  nS : NoAttr K C "size"
  nA : NoAttr K C "arcs"
  nK : NoAttr K C "knows"
structure NetAt (K : PySem.W.Frag) (C : Addr) (H : Hp) (p : Addr) (n : Nat) (arcs : List (Int × Int)) : Prop where
  cl : Cls K C
  nS : NoAttr K C "size"
  nA : NoAttr K C "arcs"
  nK : NoAttr K C "knows"
  ok : ArcsOk n arcs
  lo : 1 ≤ n
  hi : n ≤ 9
  ex : ∃ (dx : Addr) (fs : List (Str × V)) (kv : V), H p = some (.ins C dx fs) ∧ fs.lookup ("size" : Str) = some (.int n) ∧ fs.lookup ("knows" : Str) = some kv ∧ fs.lookup ("audience" : Str) = none ∧
    Tp K H kv (.tuple ((List.range n).map fun (i : Nat) => rowD (knowsI arcs i)))
theorem NetAt.gr {x : Option Addr} {C p : Addr} {H H' : Hp} {n : Nat} {arcs : List (Int × Int)} (h : NetAt K C H p n arcs) (g : Gr x H H') (hx : some p ≠ x) (nt : NoTup x H) : NetAt K C H' p n arcs := by
  obtain ⟨c1, c2, c3, c4, c5, c6, c7, dx, fs, kv, e1, e2, e3, e4, t⟩ := h
  exact ⟨c1, c2, c3, c4, c5, c6, c7, dx, fs, kv, g.keep p _ hx e1 (fun _ z => nomatch z), e2, e3, e4, t.gr g nt⟩
theorem NetAt.gr0 {C p : Addr} {H H' : Hp} {n : Nat} {arcs : List (Int × Int)} (h : NetAt K C H p n arcs) (g : Gr none H H') : NetAt K C H' p n arcs := h.gr g (by simp) .none
abbrev sNetInit : Stmt := inClass (top 38) 0
theorem scNetInit : FnScope ["self", "size", "arcs", "wrong", "place", "j", "i"] ["self", "size", "arcs"] (defScope sNetInit) := ⟨rfl, rfl, rfl, by decide +kernel, rfl, by decide +kernel, by decide +kernel⟩
def spNet (K : PySem.W.Frag) (C : Addr) : Sp := fun vs H Q _ => ∃ (p dx : Addr) (v : V) (arcs : List (Int × Int)) (n : Nat), vs = [.ref p, .int n, v] ∧ H p = some (.ins C dx []) ∧ 1 ≤ n ∧ n ≤ 9 ∧ ArcsOk n arcs ∧ Tp K H v (arcsD arcs) ∧ ∀ H', Gr (some p) H H' → NetAt K C H' p n arcs → Q .non H'
theorem ok_net {f C : Addr} {fd : FuncData} {k : Nat} (F : Fun K "__init__" "Net.__init__" sNetInit f fd) (B : Bi mg) (T : NetT K mg C) (mp : ∃ t, mg "MOST_PLACES" = some (.int 12 t)) (L : Cal P w K mg base CX0 1 "is_below" ["value", "many"] (spBelow K)) (L2 : Cal P w K mg base CX0 3 "first_wrong_arc" ["size", "arcs"] (spWrong K)) : FnOk P w K mg base CX0 (k + 4) f fd ["self", "size", "arcs"] (spNet K C) := by
  obtain ⟨fL, fdL, okL, gL, kL, bL⟩ := L.ex
  obtain ⟨fW, fdW, okW, gW, kW, bW⟩ := L2.ex
  obtain ⟨tk, mP⟩ := mp
  refine F.ok scNetInit (fun vs H Q E h => ?_) (fun cdv A outer s H vs Q E hr h => ?_)
  · obtain ⟨p, dx, v, arcs, n, rfl, _⟩ := h
    rfl
  · obtain ⟨p, dx, v, arcs, n, rfl, hp, h1, h9, ha, hd, q⟩ := h
    refine ⟨_, pss_cons (ps_if (PW.pt (pw_or (pt_not (pt_val (pe_call okL (hr.mono (by omega)) (by rfl) gL kL bL .nil pass0 (pa_cons (pv 1) (pa_cons (pe_op op_add (pe_glob (v := .int 12) (by rfl) mP ⟨_, rfl⟩) pe_int) pa_nil))))) (pw_or1 (pt_cmpR op_lt (pv 1) pe_int (nomark _))))) (pss_one ps_never) pss_nil)
      (pss_cons (ps_set (i := 3) scNetInit.nd rfl (Or.inl rfl) (pe_call okW (hr.mono (by omega)) (by rfl) gW kW bW .nil pass0 (pa_cons (pv 1) (pa_cons (pv 2) pa_nil))))
      (pss_cons (ps_if (pt_cmpR op_notN (pv 3) pe_non (nomark _)) (pss_one ps_never) pss_nil)
      (pss_cons (ps_fld (pv 0) (pv 1) rfl)
      (pss_cons (ps_fld (pv 0) (pe_callTy call_tupleT (by rfl) B.tuple (by decide +kernel) (pa_cons (pv 2) pa_nil)) rfl)
      (pss_one (ps_fld (pv 0) (pe_callTy call_tuple_of (by rfl) B.tuple (by decide +kernel) (pa_cons (pe_lc (own := [("place", 4)]) (g := gName 4) (tt := tYes) rfl scNetInit.nd (pi_range1 (by rfl) B.range (pa_cons (pv 1) pa_nil))
          (blkOk_by (N := ["self", "size", "arcs", "wrong", "place", "j", "i"]) (sc := defScope sNetInit) (by decide +kernel)) (fun _ _ _ _ _ => pg_name (i := 4) scNetInit.nd rfl (Or.inr rfl)) (fun _ _ _ _ _ => pts_nil)
          (fun _ _ _ _ _ => pe_callTy (call_tuple_ofK (K := K)) (by rfl) B.tuple (by decide +kernel) (pa_cons (pe_lc (own := [("j", 5), ("i", 6)]) (g := gTup K 2 (gCons (gName 6) (gCons (gName 5) gNil))) rfl scNetInit.nd (pi_tupK (K := K) (pe_fldK (K := K) (pv 0)))
            (bk (N := ["self", "size", "arcs", "wrong", "place", "j", "i"]) { kind := .function, names := [(".0", .local), ("place", .cell), ("tuple", .globalImplicit), ("self", .cell)], isGenerator := false, isCoroutine := false } (by decide +kernel)) (fun _ _ _ _ _ => pg_tupK rfl (pgs_cons (pg_name (i := 6) scNetInit.nd rfl (Or.inl rfl)) (pgs_cons (pg_name (i := 5) scNetInit.nd rfl (Or.inl rfl)) pgs_nil)))
            (fun _ _ _ _ _ => pts_one (pt_cmpR op_eq (pv 6) (pv 4) (nomark _))) (fun _ _ _ _ _ => pv 5)) pa_nil))) pa_nil)) rfl)))))), ?_⟩
    have hb : isB (.int n) (12 + 1) = true := isB_of (by omega) (by omega)
    refine ⟨.int n, rfl, 12, 1, rfl, rfl, .int n, .int n, 12 + 1, rfl, .int n, _, rfl, ite2 (fun z => absurd z (by rw [hb]; decide)) fun _ => ?_⟩
    refine ⟨.int n, rfl, n, 1, rfl, rfl, _, rfl, ite2 (fun z => absurd (of_decide_eq_true z) (by omega)) fun _ => ?_⟩
    refine ⟨.int n, rfl, v, rfl, v, arcs, n, rfl, hd, ha, fun H1 g1 => ?_⟩
    refine ⟨.non, rfl, rfl, _, rfl, iteF ?_⟩
    have hp1 : H1 p = some (.ins C dx []) := g1.keep p _ (by simp) hp (fun _ z => nomatch z)
    have hd1 := hd.gr0 g1
    -- self.size = size
    refine ⟨.int n, rfl, .ref p, rfl, p, C, dx, _, rfl, hp1, T.cl, T.nS, by decide, ?_⟩
    have nt : ∀ {H2 : Hp} {fs : List (Str × V)}, H2 p = some (.ins C dx fs) → NoTup (some p) H2 := fun e q' z => by
      cases z
      exact ⟨fun ys z => (by rw [e] at z; cases z), fun o ys z => (by rw [e] at z; cases z)⟩
    have ga : ∀ {H2 : Hp} {fs : List (Str × V)} {o : HO}, H2 p = some (.ins C dx fs) → Gr (some p) H2 (upd H2 p o) := fun e => Gr.at fun ps z => by rw [e] at z; cases z
    have hd2 := hd1.gr (ga hp1 (o := .ins C dx (putF "size" (.int n) []))) (nt hp1)
    have g2 : Gr (some p) H _ := g1.any.trans (ga hp1 (o := .ins C dx (putF "size" (.int n) [])))
    have hp2 : (upd H1 p (.ins C dx (putF "size" (.int n) []))) p = _ := upd_same
    generalize upd H1 p (.ins C dx (putF "size" (.int n) [])) = H2 at *
    -- self.arcs = tuple(arcs)
    obtain ⟨a, xs, rfl, hs, hx⟩ := hd2.tuple
    refine ⟨.ref a, rfl, a, xs, rfl, hs, .ref p, rfl, p, C, dx, _, rfl, hp2, T.cl, T.nA, (show 1 < 1000 by decide), ?_⟩
    have hd3 := hd2.gr (ga hp2 (o := .ins C dx (putF "arcs" (.ref a) (putF "size" (.int n) [])))) (nt hp2)
    have hs3 := (ga hp2 (o := .ins C dx (putF "arcs" (.ref a) (putF "size" (.int n) [])))).sqT (nt hp2) hs
    have hx3 := hx.gr (ga hp2 (o := .ins C dx (putF "arcs" (.ref a) (putF "size" (.int n) [])))) (nt hp2)
    have g3 : Gr (some p) H _ := g2.trans (ga hp2 (o := .ins C dx (putF "arcs" (.ref a) (putF "size" (.int n) []))))
    have hp3 : (upd H2 p (.ins C dx (putF "arcs" (.ref a) (putF "size" (.int n) [])))) p = _ := upd_same
    generalize upd H2 p (.ins C dx (putF "arcs" (.ref a) (putF "size" (.int n) []))) = H3 at *
    have hl := hx.length
    rw [List.length_map] at hl
    -- self.knows = ..
    refine ⟨.int n, rfl, n, rfl, by omega, by omega, fun D hD => ?_⟩
    refine lcR (K := K) (n := n) (by omega) hD (fun _ => true) (fun (i : Nat) => rowD (knowsI arcs i)) (fun i H4 Acc No hi g4 hac _ => ?_) (fun H4 ys g4 e4 t4 => ?_)
    · refine ⟨rfl, .ref p, rfl, p, C, dx, _, .ref a, rfl, g4.keep p _ (by simp) hp3 (fun _ z => nomatch z), T.cl, T.nA, ?_, a, rfl, ⟨_, g4.sqT .none hs3⟩, fun D2 hD2 => ?_⟩
      · rw [lookup_putF, if_pos rfl]
      refine lcT (K := K) (as := arcs) hl.symm (by have := ha.len; omega) hD2 (g4.sqT .none hs3) (fun q => decide (q.1 = (i : Int))) (fun q => .int q.2) (fun j al x H5 Acc2 No2 h1 h2 g5 ha5 hn5 => ?_) (fun H5 ys g5 e5 t5 => ?_)
      · obtain ⟨d, hd1, hd2⟩ := hx3.get h2
        rw [List.getElem?_map, h1] at hd1
        cases hd1
        obtain ⟨b, rfl, hb⟩ := (hd2.gr0 (g4.trans g5)).ints
        refine ⟨b, _, rfl, hb, rfl, _, _, rfl, _, _, rfl, rfl, rfl, .int al.1, rfl, .int (0 + i), rfl, rfl, _, rfl, ?_⟩
        by_cases hh : al.1 = (i : Int)
        · rw [Int.zero_add, decide_eq_true (by rw [hh])]
          exact ⟨.int al.2, rfl, ha5 (decide_eq_true hh) _ _ Gr.refl (.int _)⟩
        · rw [Int.zero_add, decide_eq_false (fun z => hh (V.int.inj z))]
          exact hn5 (decide_eq_false hh) _ Gr.refl
      · refine ⟨D2, ys, rfl, .inl ⟨SqL.of e5, fun l hl5 => hac rfl _ _ (g5.trans (Gr.new hl5)) ?_⟩⟩
        have := tp_tuple (D := D2) hl5 t5
        unfold knowsI
        rw [rowD, List.map_map]
        exact this
    · refine ⟨D, ys, rfl, .inl ⟨SqL.of e4, fun l hl4 => ?_⟩⟩
      rw [List.filter_eq_self.mpr (fun _ _ => rfl)] at t4
      have t6 := tp_tuple (D := D) hl4 t4
      have g6 := g4.trans (Gr.new (o := .tup ys) hl4)
      have hp6 := g6.keep p _ (by simp) hp3 (fun _ z => nomatch z)
      refine ⟨.ref p, rfl, p, C, dx, _, rfl, hp6, T.cl, T.nK, (show 2 < 1000 by decide), ?_⟩
      refine q _ ((g3.trans g6.any).trans (ga hp6)) ⟨T.cl, T.nS, T.nA, T.nK, ha, h1, h9, dx, _, .ref l, upd_same, ?_, ?_, ?_, t6.gr (ga hp6) (nt hp6)⟩
      · rw [lookup_putF, if_neg (by decide +kernel), lookup_putF, if_neg (by decide +kernel), lookup_putF, if_pos rfl]
      · rw [lookup_putF, if_pos rfl]
      · rw [lookup_putF, if_neg (by decide +kernel), lookup_putF, if_neg (by decide +kernel), lookup_putF, if_neg (by decide +kernel)]
        rfl
end
end Lk

namespace Lk
open PySem PySem.Spec PyProof.Rows L2 GxR RZ
/-! ### an audience -/
abbrev Lis : Type := List (List Int) × List (List Int)
abbrev lisD (x : Lis) : PyData := .tuple ([x.1, x.2].map matD)
structure AudAt (K : PySem.W.Frag) (C : Addr) (H : Hp) (a : Addr) (p n : Nat) (ls : List Lis) : Prop where
  cl : Cls K C
  nP : NoAttr K C "p"
  nS : NoAttr K C "size"
  nL : NoAttr K C "listeners"
  ex : ∃ (dx : Addr) (fs : List (Str × V)) (lv : V), H a = some (.ins C dx fs) ∧ fs.lookup ("p" : Str) = some (.int p) ∧ fs.lookup ("size" : Str) = some (.int n) ∧ fs.lookup ("listeners" : Str) = some lv ∧ Tp K H lv (.tuple (ls.map lisD))
theorem AudAt.gr0 {K : PySem.W.Frag} {C a : Addr} {H H' : Hp} {p n : Nat} {ls : List Lis} (h : AudAt K C H a p n ls) (g : Gr none H H') : AudAt K C H' a p n ls := by
  obtain ⟨c1, c2, c3, c4, dx, fs, lv, e1, e2, e3, e4, t⟩ := h
  exact ⟨c1, c2, c3, c4, dx, fs, lv, g.keep a _ (by simp) e1 (fun _ z => nomatch z), e2, e3, e4, t.gr0 g⟩
structure AudT (K : PySem.W.Frag) (C : Addr) : Prop where
  cl : Cls K C
  nP : NoAttr K C "p"
  nS : NoAttr K C "size"
  nL : NoAttr K C "listeners"
theorem isF_lo {p : Nat} (h : isF (.int p) = true) : 2 ≤ p ∧ p ≤ 13 := by
  have h' : (decide ((p : Int) = 2) || decide ((p : Int) = 3) || decide ((p : Int) = 5) || decide ((p : Int) = 7) || decide ((p : Int) = 11) || decide ((p : Int) = 13)) = true := h
  simp only [Bool.or_eq_true, decide_eq_true_eq] at h'
  omega
section
variable {P : Program} {w : World} {K : PySem.W.Frag} {mg : Str → Option Value} {base : Heap}
abbrev sAudInit : Stmt := inClass (top 31) 0
theorem scAudInit : FnScope ["self", "p", "size", "listeners", "at", "listener"] ["self", "p", "size", "listeners"] (defScope sAudInit) := ⟨rfl, rfl, rfl, by decide +kernel, rfl, by decide +kernel, by decide +kernel⟩
def spAud (K : PySem.W.Frag) (C T1 T2 T3 : Addr) : Sp := fun vs H Q _ => ∃ (a dx l : Addr) (xs : List V) (ls : List Lis) (p n : Nat), vs = [.ref a, .int p, .int n, .ref l] ∧ H a = some (.ins C dx []) ∧ isF (.int p) = true ∧ 1 ≤ n ∧ n ≤ 9 ∧
  H l = some (.lst xs) ∧ TpAll K H xs (ls.map lisD) ∧ (∀ x ∈ ls, MatOk p n x.1 ∧ MatOk p n x.2) ∧ TabG H T1 ∧ TabG H T2 ∧ TabG H T3 ∧ ∀ H', Gr (some a) H H' → AudAt K C H' a p n ls → Q .non H'
theorem ok_aud {f C T1 T2 T3 : Addr} {fd : FuncData} {k : Nat} (F : Fun K "__init__" "Audience.__init__" sAudInit f fd) (B : Bi mg) (T : AudT K C) (mp : ∃ t, mg "MOST_COLUMNS" = some (.int 12 t)) (L1 : Cal P w K mg base CX0 1 "is_letter" ["value", "p"] (spBelow K)) (L2 : Cal P w K mg base CX0 1 "is_field" ["p"] (spField K))
    (L3 : Cal P w K mg base CX0 7 "is_listener_audiences" ["value", "p", "size"] (spLis K T1 T2 T3)) : FnOk P w K mg base CX0 (k + 8) f fd ["self", "p", "size", "listeners"] (spAud K C T1 T2 T3) := by
  obtain ⟨fL, fdL, okL, gL, kL, bL⟩ := L1.ex
  obtain ⟨fW, fdW, okW, gW, kW, bW⟩ := L2.ex
  obtain ⟨fI, fdI, okI, gI, kI, bI⟩ := L3.ex
  obtain ⟨tk, mP⟩ := mp
  refine F.ok scAudInit (fun vs H Q E h => ?_) (fun cdv A outer s H vs Q E hr h => ?_)
  · obtain ⟨a, dx, l, xs, ls, p, n, rfl, _⟩ := h
    rfl
  · obtain ⟨a, dx, l, xs, ls, p, n, rfl, hp, hF, h1, h9, hL, hx, hm, t1, t2, t3, q⟩ := h
    refine ⟨_, pss_cons (ps_if (pt_not (pt_val (pe_call okW (hr.mono (by omega)) (by rfl) gW kW bW .nil pass0 (pa_cons (pv 1) pa_nil)))) (pss_one ps_never) pss_nil)
      (pss_cons (ps_if (PW.pt (pw_or (pt_not (pt_val (pe_call okL (hr.mono (by omega)) (by rfl) gL kL bL .nil pass0 (pa_cons (pv 2) (pa_cons (pe_op op_add (pe_glob (v := .int 12) (by rfl) mP ⟨_, rfl⟩) pe_int) pa_nil))))) (pw_or1 (pt_cmpR op_eq (pv 2) pe_int (nomark _))))) (pss_one ps_never) pss_nil)
      (pss_cons (ps_if (pt_not (pt_val (pe_callB call_is2 (by rfl) B.isi (by decide +kernel) (pa_cons (pv 3) (pa_cons (pe_tup (pa_cons (pe_bltn (v := .ty "list") (u := .type "list") (by rfl) B.list (by decide +kernel) rfl) (pa_cons (pe_bltn (v := .ty "tuple") (u := .type "tuple") (by rfl) B.tuple (by decide +kernel) rfl) pa_nil))) pa_nil))))) (pss_one ps_never) pss_nil)
      (pss_cons (ps_for PassesOwn.never rfl (pi_enum (by rfl) B.enum (pa_cons (pv 3) pa_nil)) (pg_tup rfl (pgs_cons (pg_name (i := 4) scAudInit.nd rfl (Or.inl rfl)) (pgs_cons (pg_name (i := 5) scAudInit.nd rfl (Or.inl rfl)) pgs_nil)))
        (pss_one (ps_if (pt_not (pt_val (pe_call okI (hr.mono (by omega)) (by rfl) gI kI bI .nil pass0 (pa_cons (pv 5) (pa_cons (pv 1) (pa_cons (pv 2) pa_nil)))))) (pss_one ps_never) pss_nil)))
      (pss_cons (ps_fld (pv 0) (pv 1) rfl)
      (pss_cons (ps_fld (pv 0) (pv 2) rfl)
      (pss_one (ps_fld (pv 0) (pe_callTy call_tuple_of (by rfl) B.tuple (by decide +kernel) (pa_cons (pv 3) pa_nil)) rfl))))))), ?_⟩
    refine ⟨.int p, rfl, .int p, .int p, rfl, .int _, _, rfl, ite2 (fun z => absurd z (by rw [hF]; decide)) fun _ => ?_⟩
    have hb : isB (.int n) (12 + 1) = true := isB_of (by omega) (by omega)
    refine ⟨.int n, rfl, 12, 1, rfl, rfl, .int n, .int n, 12 + 1, rfl, .int n, _, rfl, ite2 (fun z => absurd z (by rw [hb]; decide)) fun _ => ?_⟩
    refine ⟨.int n, rfl, rfl, _, rfl, ite2 (fun z => absurd (V.int.inj (of_decide_eq_true z)) (by omega)) fun _ => ?_⟩
    refine ⟨.ref l, rfl, by show 2 ≤ sizeLine; decide, fun t ht => ?_⟩
    have g1 : Gr none H (upd H t (.tup [.ty "list", .ty "tuple"])) := Gr.new ht
    refine ⟨_, t, _, .list (ls.map lisD), rfl, upd_same, .inr rfl, .lst (SqL.of (g1.lst hL)) (hx.gr0 g1).dp, _, rfl, iteF ?_⟩
    have hl := hx.length
    rw [List.length_map] at hl
    refine ⟨.ref l, rfl, l, xs, rfl, SqL.of (g1.lst hL), ?_⟩
    refine for_it walk_enum (fun i σ H2 => Gr none H H2 ∧ ∃ (y4 y5 : Option V), σ = [some (.ref a), some (.int p), some (.int n), some (.ref l), y4, y5])
      ⟨g1, none, none, rfl⟩ (fun i σ H2 _ h => SqL.of (h.1.lst hL)) (fun i x σ H2 H3 hi h y => ?_) fun σ H2 h => ?_
    · obtain ⟨g, y4, y5, rfl⟩ := h
      obtain ⟨T', x1, x2, rfl, hT, rfl, ex1, ex2⟩ := y
      cases ex1
      have hi2 : i < ls.length := by omega
      obtain ⟨d, hd1, hd2⟩ := hx.get ex2
      rw [List.getElem?_map, List.getElem?_eq_getElem hi2] at hd1
      cases hd1
      have mm := hm _ (List.getElem_mem hi2)
      have g3 := g.trans (Gr.new (o := .tup [V.int (i : Nat), x2]) hT)
      refine ⟨T', _, rfl, .inl (.inl upd_same), rfl, _, _, rfl, _, _, rfl, rfl, ?_⟩
      refine ⟨x2, rfl, .int p, rfl, .int n, rfl, x2, [ls[i].1, ls[i].2], p, n, rfl, g3.tabG t1, g3.tabG t2, g3.tabG t3, hd2.gr0 g3, rfl, fun m hmm => ?_, fun H' g' => ⟨_, rfl, iteF ⟨g3.trans g', _, _, rfl⟩⟩⟩
      simp only [List.mem_cons, List.not_mem_nil, or_false] at hmm
      rcases hmm with e | e <;> subst e
      · exact mm.1
      · exact mm.2
    · obtain ⟨g, y4, y5, rfl⟩ := h
      have nt : ∀ {H2 : Hp} {fs : List (Str × V)}, H2 a = some (.ins C dx fs) → NoTup (some a) H2 := fun e q' z => by
        cases z
        exact ⟨fun ys z => (by rw [e] at z; cases z), fun o ys z => (by rw [e] at z; cases z)⟩
      have ga : ∀ {H2 : Hp} {fs : List (Str × V)} {o : HO}, H2 a = some (.ins C dx fs) → Gr (some a) H2 (upd H2 a o) := fun e => Gr.at fun ps z => by rw [e] at z; cases z
      have hp1 : H2 a = some (.ins C dx []) := g.keep a _ (by simp) hp (fun _ z => nomatch z)
      have na : l ≠ a := fun e => by rw [e, hp] at hL; cases hL
      have hL2 := g.lst hL
      have hx2 := hx.gr0 g
      -- self.p = p; self.size = size
      refine ⟨.int p, rfl, .ref a, rfl, a, C, dx, _, rfl, hp1, T.cl, T.nP, by decide, ?_⟩
      have hp2 : (upd H2 a (.ins C dx (putF "p" (.int p) []))) a = _ := upd_same
      refine ⟨.int n, rfl, .ref a, rfl, a, C, dx, _, rfl, hp2, T.cl, T.nS, (show 1 < 1000 by decide), ?_⟩
      have g2 := (ga hp1 (o := .ins C dx (putF "p" (.int p) []))).trans (ga hp2 (o := .ins C dx (putF "size" (.int n) (putF "p" (.int p) []))))
      have hp3 : (upd (upd H2 a (.ins C dx (putF "p" (.int p) []))) a (.ins C dx (putF "size" (.int n) (putF "p" (.int p) [])))) a = _ := upd_same
      have hL3 := g2.keep l _ (fun z => na (Option.some.inj z)) hL2 (fun _ z => nomatch z)
      have hx3 := hx2.gr g2 (nt hp1)
      generalize upd (upd H2 a (.ins C dx (putF "p" (.int p) []))) a (.ins C dx (putF "size" (.int n) (putF "p" (.int p) []))) = H3 at *
      refine ⟨.ref l, rfl, l, xs, rfl, .inl ⟨SqL.of hL3, fun z hz => ?_⟩⟩
      have g4 : Gr none H3 _ := Gr.new (o := .tup xs) hz
      have t6 : Tp K (upd H3 z (.tup xs)) (.ref z) (.tuple (ls.map lisD)) := .tup (.inl (.inl upd_same)) (hx3.gr0 g4)
      have hp6 := g4.keep a _ (by simp) hp3 (fun _ z => nomatch z)
      refine ⟨.ref a, rfl, a, C, dx, _, rfl, hp6, T.cl, T.nL, (show 2 < 1000 by decide), ?_⟩
      refine q _ ((g.any.trans g2).trans (g4.any.trans (ga hp6))) ⟨T.cl, T.nP, T.nS, T.nL, dx, _, .ref z, upd_same, ?_, ?_, ?_, t6.gr (ga hp6) (nt hp6)⟩
      · rw [lookup_putF, if_neg (by decide +kernel), lookup_putF, if_neg (by decide +kernel), lookup_putF, if_pos rfl]
      · rw [lookup_putF, if_neg (by decide +kernel), lookup_putF, if_pos rfl]
      · rw [lookup_putF, if_pos rfl]
/-! ### Net.audience -/
def lsOf (n : Nat) (arcs : List (Int × Int)) : List Lis := (List.range n).map fun (i : Nat) => ((knowsI arcs i).map (fun j => unitR n [j]), [unitR n [(i : Int)]])
theorem unit_ok {p n : Nat} (hp : 2 ≤ p) (ps : List Int) : RowOk p n (unitR n ps) := by
  refine ⟨by unfold unitR; rw [List.length_map, List.length_range], fun i hi => ?_⟩
  unfold unitR at hi
  obtain ⟨j, _, rfl⟩ := List.mem_map.mp hi
  split <;> omega
theorem ls_ok {p n : Nat} (hp : 2 ≤ p) (arcs : List (Int × Int)) : ∀ x ∈ lsOf n arcs, MatOk p n x.1 ∧ MatOk p n x.2 := fun x hx => by
  obtain ⟨i, _, rfl⟩ := List.mem_map.mp hx
  refine ⟨fun r hr => ?_, fun r hr => ?_⟩
  · obtain ⟨j, _, rfl⟩ := List.mem_map.mp hr
    exact unit_ok hp _
  · rw [List.mem_singleton.mp hr]
    exact unit_ok hp _
abbrev sAudience : Stmt := inClass (top 38) 2
theorem scAudience : FnScope ["self", "p", "listeners", "place", "knows", "other"] ["self", "p"] (defScope sAudience) := ⟨rfl, rfl, rfl, by decide +kernel, rfl, by decide +kernel, by decide +kernel⟩
def spAudience (K : PySem.W.Frag) (CN CA T1 T2 T3 : Addr) : Sp := fun vs H Q _ => ∃ (h : Addr) (p n : Nat) (arcs : List (Int × Int)), vs = [.ref h, .int p] ∧ NetAt K CN H h n arcs ∧ isF (.int p) = true ∧
  TabG H T1 ∧ TabG H T2 ∧ TabG H T3 ∧ ∀ H' a, Gr none H H' → AudAt K CA H' a p n (lsOf n arcs) → Q (.ref a) H'
theorem ok_audience {f CN CA fA T1 T2 T3 : Addr} {fd fdA : FuncData} {k : Nat} (F : Fun K "audience" "Net.audience" sAudience f fd) (B : Bi mg) (L2 : Cal P w K mg base CX0 1 "is_field" ["p"] (spField K)) (L1 : Cal P w K mg base CX0 1 "one_row" ["size", "places"] (spOne K))
    (M : Mk K CA fA) (FA : FnOk P w K mg base CX0 8 fA fdA ["self", "p", "size", "listeners"] (spAud K CA T1 T2 T3)) (bA : Binds K fdA ["self", "p", "size", "listeners"] []) (gA : mg "Audience" = some (.ref CA)) : FnOk P w K mg base CX0 (k + 10) f fd ["self", "p"] (spAudience K CN CA T1 T2 T3) := by
  obtain ⟨fL, fdL, okL, gL, kL, bL⟩ := L1.ex
  obtain ⟨fW, fdW, okW, gW, kW, bW⟩ := L2.ex
  refine F.ok scAudience (fun vs H Q E h => ?_) (fun cdv A outer s H vs Q E hr h => ?_)
  · obtain ⟨h, p, n, arcs, rfl, _⟩ := h
    rfl
  · obtain ⟨h, p, n, arcs, rfl, hN, hF, t1, t2, t3, q⟩ := h
    obtain ⟨hp2, hp13⟩ := isF_lo hF
    refine ⟨_, pss_cons (ps_if (pt_not (pt_val (pe_call okW (hr.mono (by omega)) (by rfl) gW kW bW .nil pass0 (pa_cons (pv 1) pa_nil)))) (pss_one ps_never) pss_nil)
      (pss_cons (ps_set (i := 2) scAudience.nd rfl (Or.inl rfl) (pe_lst pa_nil))
      (pss_cons (ps_for PassesOwn.never rfl (pi_range1 (by rfl) B.range (pa_cons (pe_fld (pv 0) rfl) pa_nil)) (pg_name (i := 3) scAudience.nd rfl (Or.inl rfl))
        (pss_cons (ps_set (i := 4) scAudience.nd rfl (Or.inl rfl) (pe_callTy call_tuple_of (by rfl) B.tuple (by decide +kernel) (pa_cons
          (pe_lc (own := [("other", 5)]) (g := gName 5) (tt := tYes) rfl scAudience.nd (pi_tup (pe_ix ix_tup (pe_fld (pv 0) rfl) (pv 3) (fun _ _ => rfl)))
            (bk (N := ["self", "p", "listeners", "place", "knows", "other"]) (defScope sAudience) (by decide +kernel)) (fun _ _ _ _ _ => pg_name (i := 5) scAudience.nd rfl (Or.inl rfl)) (fun _ _ _ _ _ => pts_nil)
            (fun _ _ _ _ _ => pe_call okL (hr.mono (by omega)) (by rfl) gL kL bL .nil pass0 (pa_cons (pe_fldK (K := K) (pv 0)) (pa_cons (pe_tup (pa_cons (pv 5) pa_nil)) pa_nil)))) pa_nil)))
        (pss_one (ps_expr (pe_bm PySem.F.plainAttrs_list PySem.F.slot_list_append PySem.F.type_list_append mt_append (pv 2) (pa_cons (pe_tup (pa_cons (pv 4) (pa_cons (pe_tup (pa_cons (pe_call okL (hr.mono (by omega)) (by rfl) gL kL bL .nil pass0 (pa_cons (pe_fld (pv 0) rfl) (pa_cons (pe_tup (pa_cons (pv 3) pa_nil)) pa_nil))) pa_nil)) pa_nil))) pa_nil))))))
      (pss_one (ps_ret (pe_make M FA (hr.mono (by omega)) (by rfl) gA bA .nil pass0 (pa_cons (pv 1) (pa_cons (pe_fld (pv 0) rfl) (pa_cons (pv 2) pa_nil)))))))), ?_⟩
    refine ⟨.int p, rfl, .int p, .int p, rfl, .int _, _, rfl, ite2 (fun z => absurd z (by rw [hF]; decide)) fun _ => ?_⟩
    refine ⟨Nat.zero_le _, fun l hl => ?_⟩
    have h9 := hN.hi
    have fsize : ∀ {H2 : Hp}, Gr none H H2 → ∃ C dx fs, H2 h = some (.ins C dx fs) ∧ Cls K C ∧ NoAttr K C "size" ∧ fs.lookup ("size" : Str) = some (.int n) := fun g => by
      obtain ⟨c1, c2, c3, c4, c5, c6, c7, dx, fs, kv, e1, e2, e3, e4, t⟩ := hN.gr0 g
      exact ⟨_, _, _, e1, c1, c2, e2⟩
    have fknows : ∀ {H2 : Hp}, Gr none H H2 → ∃ C dx fs kv, H2 h = some (.ins C dx fs) ∧ Cls K C ∧ NoAttr K C "knows" ∧ fs.lookup ("knows" : Str) = some kv ∧ Tp K H2 kv (.tuple ((List.range n).map fun (i : Nat) => rowD (knowsI arcs i))) := fun g => by
      obtain ⟨c1, c2, c3, c4, c5, c6, c7, dx, fs, kv, e1, e2, e3, e4, t⟩ := hN.gr0 g
      exact ⟨_, _, _, _, e1, c1, c4, e3, t⟩
    have g1 : Gr none H (upd H l (.lst [])) := Gr.new hl
    obtain ⟨C0, dx0, fs0, e1, e2, e3, e4⟩ := fsize g1
    refine ⟨.ref h, rfl, h, C0, dx0, fs0, .int n, rfl, e1, e2, e3, e4, n, rfl, by omega, by omega, ?_⟩
    refine for_it (walk_range (lo := 0) (n := n)) (fun i σ H2 => Gr none H H2 ∧ ∃ (y3 y4 y5 : Option V) (xs : List V), σ = [some (.ref h), some (.int p), some (.ref l), y3, y4, y5] ∧ H2 l = some (.lst xs) ∧ TpAll K H2 xs (((List.range i).map fun (i : Nat) => (((knowsI arcs i).map (fun j => unitR n [j]), [unitR n [(i : Int)]]) : Lis)).map lisD))
      ⟨g1, none, none, none, [], rfl, upd_same, .nil⟩ (fun i σ H2 _ h => trivial) (fun i x σ H0 H2 hi hP y => ?_) fun σ H2 hP => ?_
    · obtain ⟨g, y3, y4, y5, xs, rfl, hL, hx⟩ := hP
      obtain ⟨rfl, rfl⟩ := y
      obtain ⟨C1, dx1, fs1, kv, e1, e2, e3, e4, tk⟩ := fknows g
      obtain ⟨ka, kx, rfl, hks, hkx⟩ := tk.tuple
      have hkl := hkx.length
      rw [List.length_map, List.length_range] at hkl
      obtain ⟨d, hd1, hd2⟩ := hkx.get (List.getElem?_eq_getElem (show i < kx.length by omega))
      rw [List.getElem?_map, List.getElem?_range hi] at hd1
      cases hd1
      obtain ⟨oa, eoa, hos⟩ := hd2.ints
      refine ⟨.ref h, rfl, h, C1, dx1, fs1, .ref ka, rfl, e1, e2, e3, e4, .int (0 + i), rfl, ka, kx, 0 + i, .ref oa, rfl, rfl, hks, ?_, oa, rfl, ⟨_, hos⟩, fun D hD => ?_⟩
      · rw [Int.zero_add]
        exact atI_nat (j := i) (by rw [← eoa]; exact List.getElem?_eq_getElem _)
      have hlen : (knowsI arcs i).length ≤ 1000 := by
        unfold knowsI
        rw [List.length_map]
        exact Nat.le_trans (List.length_filter_le _ _) hN.ok.len
      refine lcT (K := K) (as := knowsI arcs i) (xs := (knowsI arcs i).map V.int) (List.length_map (f := V.int)).symm (by rw [List.length_map (f := V.int)]; omega) hD hos (fun _ => true) (fun j => rowD (unitR n [j])) (fun j al x H4 Acc No h1 h2 g4 hac _ => ?_) (fun H4 ys g4 e5 t4 => ?_)
      · rw [List.getElem?_map, h1] at h2
        cases h2
        obtain ⟨C2, dx2, fs2, f1, f2, f3, f4⟩ := fsize (g.trans g4)
        refine ⟨rfl, .ref h, rfl, h, C2, dx2, fs2, .int n, rfl, f1, f2, f3, f4, .int al, rfl, by show 1 ≤ sizeLine; decide, fun tt htt => ?_⟩
        refine ⟨.ref tt, n, [al], rfl, by omega, .tup (.inl (.inl upd_same)) (.cons (.int al) .nil), fun H5 y g5 ty => hac rfl _ _ ((Gr.new htt).trans g5) ty⟩
      · rw [List.filter_eq_self.mpr (fun _ _ => rfl)] at t4
        refine ⟨D, ys, rfl, .inl ⟨SqL.of e5, fun z hz => ?_⟩⟩
        have t5 := tp_tuple (D := D) hz t4
        have g5 : Gr none H2 (upd H4 z (.tup ys)) := g4.trans (Gr.new hz)
        generalize upd H4 z (.tup ys) = H5 at *
        refine ⟨.ref l, rfl, .inl ⟨rfl, _, SqL.of (g5.lst hL)⟩, .ref z, rfl, ?_⟩
        obtain ⟨C2, dx2, fs2, f1, f2, f3, f4⟩ := fsize (g.trans g5)
        refine ⟨.ref h, rfl, h, C2, dx2, fs2, .int n, rfl, f1, f2, f3, f4, .int (0 + i), rfl, by show 1 ≤ sizeLine; decide, fun tt htt => ?_⟩
        have g6 : Gr none H5 (upd H5 tt (.tup [.int (0 + i)])) := Gr.new htt
        refine ⟨.ref tt, n, [0 + (i : Int)], rfl, by omega, .tup (.inl (.inl upd_same)) (.cons (.int _) .nil), fun H6 y g7 ty => ?_⟩
        refine ⟨by show 1 ≤ sizeLine; decide, fun t2 ht2 => ⟨by show 2 ≤ sizeLine; decide, fun t3 ht3 => ?_⟩⟩
        have g8 : Gr none H6 (upd H6 t2 (.tup [y])) := Gr.new ht2
        have g9 : Gr none (upd H6 t2 (.tup [y])) (upd (upd H6 t2 (.tup [y])) t3 (.tup [.ref z, .ref t2])) := Gr.new ht3
        have gA2 : Gr none H5 _ := ((g6.trans g7).trans g8).trans g9
        have tl : Tp K (upd (upd H6 t2 (.tup [y])) t3 (.tup [.ref z, .ref t2])) (.ref t3) (lisD ((knowsI arcs i).map (fun j => unitR n [j]), [unitR n [(i : Int)]])) := by
          refine .tup (.inl (.inl upd_same)) (.cons ?_ (.cons ?_ .nil))
          · have := t5.gr0 gA2
            unfold matD
            rw [List.map_map]
            exact this
          · refine .tup (.inl (.inl (g9.tup upd_same))) (.cons ?_ .nil)
            rw [Int.zero_add] at ty
            exact ty.gr0 (g8.trans g9)
        have hL9 := gA2.lst (g5.lst hL)
        have hx9 := hx.gr0 (g5.trans gA2)
        generalize upd (upd H6 t2 (.tup [y])) t3 (.tup [.ref z, .ref t2]) = H9 at *
        have hxl := hx.length
        rw [List.length_map, List.length_map, List.length_range] at hxl
        refine ⟨l, xs, _, rfl, rfl, hL9, Nat.lt_of_le_of_lt (show xs.length ≤ 1000 by omega) (by decide), ?_⟩
        have gf : Gr none H (upd H9 l (.lst (xs ++ [.ref t3]))) := Gr.fresh (g.trans (g5.trans gA2)) hl
        refine ⟨gf, _, _, _, _, rfl, upd_same, ?_⟩
        rw [List.range_succ, List.map_append, List.map_append]
        exact (hx9.append (.cons tl .nil)).gr (Gr.at fun ps z => by rw [hL9] at z; cases z) (.lst hL9)
    · obtain ⟨g, y3, y4, y5, xs, rfl, hL, hx⟩ := hP
      obtain ⟨C2, dx2, fs2, f1, f2, f3, f4⟩ := fsize g
      refine ⟨.int p, rfl, .ref h, rfl, h, C2, dx2, fs2, .int n, rfl, f1, f2, f3, f4, .ref l, rfl, fun x dx nx ndx nex => ?_⟩
      have g2 : Gr none H2 (upd H2 dx (.own x)) := Gr.new ndx
      have nx2 : (upd H2 dx (.own x)) x = none := by rw [upd_ne (Ne.symm nex)]; exact nx
      have g3 : Gr none (upd H2 dx (.own x)) (upd (upd H2 dx (.own x)) x (.ins CA dx [])) := Gr.new nx2
      have gg := g.trans (g2.trans g3)
      refine ⟨x, dx, l, xs, lsOf n arcs, p, n, rfl, upd_same, hF, hN.lo, h9, (g2.trans g3).lst hL, hx.gr0 (g2.trans g3), ls_ok hp2 arcs, gg.tabG t1, gg.tabG t2, gg.tabG t3, fun H' g4 hA => ⟨rfl, q _ _ ?_ hA⟩⟩
      refine ⟨fun b o _ hb nt => ?_, fun b ps hb => ?_⟩
      · have hx0 : H x = none := g.free0 nx
        exact g4.keep b o (fun z => by cases z; rw [hx0] at hb; cases hb) (gg.keep b o (by simp) hb nt) nt
      · obtain ⟨p1, w1, w2⟩ := gg.tab b ps hb
        obtain ⟨p2, w3, w4⟩ := g4.tab b p1 w1
        exact ⟨p2, w3, fun z => w4 (w2 z)⟩
end
end Lk

namespace Lk
open PySem PySem.Spec PyProof.Rows L2 GxR RZ
/-! ### what is left of a lot, and how it is taken: plain -/
abbrev kn (arcs : List (Int × Int)) (i : Int) : List Int := knowsI arcs i
def strip1 (arcs : List (Int × Int)) (l : List Int) : List Int := l.filter fun i => (knowsI arcs i).any fun j => decide (j ∈ l)
/-- S lies in l, each of S knows one of S -/
def Ring (arcs : List (Int × Int)) (l S : List Int) : Prop := ∀ i ∈ S, i ∈ l ∧ ∃ j ∈ knowsI arcs i, j ∈ S
def NoRing (arcs : List (Int × Int)) (l : List Int) : Prop := ∀ S, Ring arcs l S → S = []
/-- come from l by rounds -/
inductive Comes (arcs : List (Int × Int)) (l : List Int) : List Int → Prop
  | refl : Comes arcs l l
  | step {m : List Int} : Comes arcs l m → Comes arcs l (strip1 arcs m)
theorem Comes.sub {arcs : List (Int × Int)} {l m : List Int} (h : Comes arcs l m) : ∀ i ∈ m, i ∈ l := by
  induction h with
  | refl => exact fun i h => h
  | step _ ih => exact fun i h => ih i (List.mem_filter.mp h).1
theorem Comes.len {arcs : List (Int × Int)} {l m : List Int} (h : Comes arcs l m) : m.length ≤ l.length := by
  induction h with
  | refl => exact Nat.le_refl _
  | step _ ih => exact Nat.le_trans (List.length_filter_le _ _) ih
theorem Comes.ring {arcs : List (Int × Int)} {l m S : List Int} (h : Comes arcs l m) (r : Ring arcs l S) : Ring arcs m S := by
  induction h with
  | refl => exact r
  | step _ ih =>
    intro i hi
    obtain ⟨h1, j, h2, h3⟩ := ih i hi
    exact ⟨List.mem_filter.mpr ⟨h1, List.any_eq_true.mpr ⟨j, h2, decide_eq_true (ih j h3).1⟩⟩, j, h2, h3⟩
theorem comes_end {arcs : List (Int × Int)} {l m : List Int} (h : Comes arcs l m) (e : (strip1 arcs m).length = m.length) : m = [] ↔ NoRing arcs l := by
  have e2 : strip1 arcs m = m := List.Sublist.eq_of_length (List.filter_sublist) e
  constructor
  · intro z S r
    have := h.ring r
    rw [z] at this
    cases S with
    | nil => rfl
    | cons x r' => exact absurd (this x (by simp)).1 (by simp)
  · intro nr
    refine nr m fun i hi => ⟨h.sub i hi, ?_⟩
    have hi2 := hi
    rw [← e2] at hi2
    obtain ⟨j, h1, h2⟩ := List.any_eq_true.mp (List.mem_filter.mp hi2).2
    exact ⟨j, h1, of_decide_eq_true h2⟩
/-- knows none of these -/
def freeB (arcs : List (Int × Int)) (l : List Int) (i : Int) : Bool := (knowsI arcs i).all fun j => decide (j ∉ l)
def takeF (arcs : List (Int × Int)) : Nat → List Int → Option (List Int)
  | 0, _ => some []
  | m + 1, l => match l.filter (freeB arcs l) with
    | [] => none
    | x :: _ => (takeF arcs m (l.filter fun i => decide (i ≠ x))).map (x :: ·)
theorem take_ring {arcs : List (Int × Int)} : ∀ (m : Nat) (l : List Int), l.length = m → l.Nodup → (takeF arcs m l = none ↔ ¬ NoRing arcs l)
  | 0, l, h, _ => by
    have e : l = [] := List.eq_nil_of_length_eq_zero h
    subst e
    refine ⟨fun z => (by cases z), fun z => absurd (fun S r => ?_) z⟩
    cases S with
    | nil => rfl
    | cons x r' => exact absurd (r x (by simp)).1 (by simp)
  | m + 1, l, h, nd => by
    unfold takeF
    cases e : l.filter (freeB arcs l) with
    | nil =>
      refine ⟨fun _ nr => ?_, fun _ => rfl⟩
      have : l = [] := nr l fun i hi => ⟨hi, ?_⟩
      · rw [this] at h; cases h
      · have hf : ¬ freeB arcs l i = true := fun z => by
          have : i ∈ l.filter (freeB arcs l) := List.mem_filter.mpr ⟨hi, z⟩
          rw [e] at this; cases this
        unfold freeB at hf
        rw [List.all_eq_true] at hf
        apply Classical.byContradiction
        intro hn
        refine hf fun j hj => decide_eq_true fun hjl => hn ⟨j, hj, hjl⟩
    | cons x r =>
      have hx : x ∈ l ∧ freeB arcs l x = true := List.mem_filter.mp (by rw [e]; simp)
      have hl : (l.filter fun i => decide (i ≠ x)).length = m := by
        have e1 : l.filter (fun i => decide (i ≠ x)) = l.erase x := by
          rw [nd.erase_eq_filter]
          refine List.filter_congr fun y _ => ?_
          by_cases q : y = x <;> simp [q]
        rw [e1, List.length_erase_of_mem hx.1, h]; rfl
      have ih := take_ring (arcs := arcs) m _ hl (nd.sublist List.filter_sublist)
      show Option.map _ _ = none ↔ _
      rw [Option.map_eq_none_iff, ih]
      refine not_congr ⟨?_, ?_⟩
      · intro nr S rs
        refine nr S fun i hi => ⟨List.mem_filter.mpr ⟨(rs i hi).1, decide_eq_true fun z => ?_⟩, (rs i hi).2⟩
        subst z
        obtain ⟨_, j, h1, h2⟩ := rs i hi
        exact of_decide_eq_true (List.all_eq_true.mp hx.2 j h1) (rs j h2).1
      · exact fun nr S rs => nr S fun i hi => ⟨(List.mem_filter.mp (rs i hi).1).1, (rs i hi).2⟩
/-- the ones that are taken are those of the lot, each once -/
theorem take_mem {arcs : List (Int × Int)} : ∀ (m : Nat) (l st : List Int), takeF arcs m l = some st → st.length = m ∧ ∀ i ∈ st, i ∈ l
  | 0, _, st, h => by cases h; exact ⟨rfl, fun i h => absurd h (by simp)⟩
  | m + 1, l, st, h => by
    unfold takeF at h
    cases e : l.filter (freeB arcs l) with
    | nil => rw [e] at h; cases h
    | cons x r =>
      rw [e] at h
      obtain ⟨s2, h1, rfl⟩ := Option.map_eq_some_iff.mp h
      obtain ⟨q1, q2⟩ := take_mem m _ s2 h1
      refine ⟨by rw [List.length_cons, q1], fun i hi => ?_⟩
      rcases List.mem_cons.mp hi with z | z
      · subst z
        exact (List.mem_filter.mp (show i ∈ l.filter (freeB arcs l) by rw [e]; simp)).1
      · exact (List.mem_filter.mp (q2 i z)).1
section
variable {K : PySem.W.Frag}
theorem NetAt.sz {C p : Addr} {H : Hp} {n : Nat} {arcs : List (Int × Int)} (h : NetAt K C H p n arcs) : ∃ C dx fs, H p = some (.ins C dx fs) ∧ Cls K C ∧ NoAttr K C "size" ∧ fs.lookup ("size" : Str) = some (.int n) := by
  obtain ⟨c1, c2, c3, c4, c5, c6, c7, dx, fs, kv, e1, e2, e3, e4, t⟩ := h
  exact ⟨_, _, _, e1, c1, c2, e2⟩
theorem NetAt.kn {C p : Addr} {H : Hp} {n : Nat} {arcs : List (Int × Int)} (h : NetAt K C H p n arcs) {i : Int} (h0 : 0 ≤ i) (h1 : i < n) : ∃ C dx fs ka kx oa, H p = some (.ins C dx fs) ∧ Cls K C ∧ NoAttr K C "knows" ∧ fs.lookup ("knows" : Str) = some (.ref ka) ∧
    SqT K H ka kx ∧ atI kx i = some (.ref oa) ∧ SqT K H oa ((knowsI arcs i).map V.int) := by
  obtain ⟨c1, c2, c3, c4, c5, c6, c7, dx, fs, kv, e1, e2, e3, e4, tk⟩ := h
  obtain ⟨ka, kx, rfl, hks, hkx⟩ := tk.tuple
  obtain ⟨j, rfl⟩ := Int.eq_ofNat_of_zero_le h0
  have hj : j < n := by omega
  have hkl := hkx.length
  rw [List.length_map, List.length_range] at hkl
  obtain ⟨d, hd1, hd2⟩ := hkx.get (List.getElem?_eq_getElem (show j < kx.length by omega))
  rw [List.getElem?_map, List.getElem?_range hj] at hd1
  cases hd1
  obtain ⟨oa, eoa, hos⟩ := hd2.ints
  exact ⟨_, _, _, ka, kx, oa, e1, c1, c4, e3, hks, atI_nat (j := j) (by rw [← eoa]; exact List.getElem?_eq_getElem _), hos⟩
theorem kn_len {C p : Addr} {H : Hp} {n : Nat} {arcs : List (Int × Int)} (h : NetAt K C H p n arcs) (i : Int) : (knowsI arcs i).length ≤ 1000 := by
  unfold knowsI
  rw [List.length_map]
  exact Nat.le_trans (List.length_filter_le _ _) h.ok.len
theorem cr_anyK {X : Cx} (hc : X.calm = true) (h : X.K = K := by rfl) : CallR X (.builtin "any") (rAny K) := by subst h; exact cr_any hc
end
end Lk

namespace Lk
open PySem PySem.Spec PyProof.Rows L2 GxR RZ
section
variable {P : Program} {w : World} {K : PySem.W.Frag} {mg : Str → Option Value} {base : Heap}
/-! ### own errors with one field -/
def spErr (K : PySem.W.Frag) (C : Addr) (f : Str) : Sp := fun vs H Q _ => ∃ a v, vs = [.ref a, v] ∧ OexC K C ∧ PySem.W.findIn K (.ref C) f = some none ∧ H a = some (exo a C none) ∧ ∀ dx, H dx = none → dx ≠ a → Q .non (upd (upd H dx (exd dx [(f, v)])) a (exo a C (some dx)))
/-- the class at C, its one field f, stands at the name nm -/
structure Err (P : Program) (w : World) (K : PySem.W.Frag) (mg : Str → Option Value) (base : Heap) (nm f : Str) (C : Addr) : Prop where
  oex : OexC K C
  no : PySem.W.findIn K (.ref C) f = some none
  g : mg nm = some (.ref C)
  ex : ∃ fI fd, PySem.W.findIn K (.ref C) "__init__" = some (some (.ref fI)) ∧ PySem.W.typeIn K (.ref fI) = some (.type "function") ∧ FnOk P w K mg base CX0 1 fI fd ["self", f] (spErr K C f) ∧ Binds K fd ["self", f] []
theorem mk_cont {C : Addr} {f : Str} {v : V} {H1 : Hp} {Q : XK} (oex : OexC K C) (no : PySem.W.findIn K (.ref C) f = some none) (h : ∀ d H', H1 d = none → Gr none H1 H' → H' d = some (.xd [(f, v)]) → Q (.ref C) (some d) H') :
    [v].length ≤ 1000 ∧ ∀ a, H1 a = none → spErr K C f (.ref a :: ([v] ++ [])) (upd H1 a (exo a C none)) (fun v H2 => v = .non ∧ ∃ (d : Addr) (fs : List (Str × V)), H2 a = some (exo a C (some d)) ∧ H2 d = some (exd d fs) ∧ H1 d = none ∧ Q (.ref C) (some d) (upd (del H2 a) d (.xd fs))) (fun _ _ _ => False) := by
  refine ⟨by show 1 ≤ 1000; decide, fun a ha => ⟨a, v, rfl, oex, no, upd_same, fun dx hdx ne => ⟨rfl, dx, [(f, v)], upd_same, ?_, ?_, ?_⟩⟩⟩
  · rw [upd_ne ne, upd_same]
  · rw [upd_ne ne] at hdx; exact hdx
  · have hdx1 : H1 dx = none := by rw [upd_ne ne] at hdx; exact hdx
    have key : ∀ b o, H1 b = some o → (upd (del (upd (upd (upd H1 a (exo a C none)) dx (exd dx [(f, v)])) a (exo a C (some dx))) a) dx (.xd [(f, v)])) b = some o := fun b o hb => by
      have nd : b ≠ dx := ne_of_none hb hdx1
      have na : b ≠ a := ne_of_none hb ha
      rw [upd_ne nd, del_ne na, upd_ne na, upd_ne nd, upd_ne na]
      exact hb
    exact h dx _ hdx1 ⟨fun b o _ hb _ => key b o hb, fun b ps hb => ⟨ps, key b _ hb, id⟩⟩ upd_same
theorem okXN {x qual : Str} {st : Stmt} {f : Addr} {fd : FuncData} {N ps : List Str} {k : Nat} {sp : Sp} (F : Fun K x qual st f fd) (S : FnScope N ps (defScope st)) (len : ∀ vs H Q E, sp vs H Q E → vs.length = ps.length)
    (hbody : ∀ (cdv : Value) (A : Around) (outer : List Env) (s : Shared) (H : Hp) (vs : List V) (Q : VK) (E : XK), Room k (A.deeper (envOfC qual (defScope st) s.heap.objs.size f cdv)) → sp vs H Q E →
      ∃ t, PSs (cxOf (L2N.CX P w) P w K mg base N qual (defScope st) f cdv A outer s H E) (defBody st) t ∧ t { nx := fun _ H' => Q .non H', rt := Q } (start N vs) H) : FnOk P w K mg base (L2N.CX P w) (k + 1) f fd ps sp := by
  obtain ⟨oc, od, kV, doc, pm, an, cdv, ct, osl, rfl, lk, hcd⟩ := F.ex
  exact fn_of lk hcd S len fun A outer s H vs Q E hr hsp => hbody cdv A outer s H vs Q E hr hsp
/-! ### stripped, can_order -/
abbrev sStrip : Stmt := top 40
abbrev sCan : Stmt := top 41
theorem scStrip : FnScope ["net", "places", "left", "before", "place", "other"] ["net", "places"] (defScope sStrip) := ⟨rfl, rfl, rfl, by decide +kernel, rfl, by decide +kernel, by decide +kernel⟩
theorem scCan : FnScope ["net", "lot"] ["net", "lot"] (defScope sCan) := ⟨rfl, rfl, rfl, by decide +kernel, rfl, by decide +kernel, by decide +kernel⟩
def spStrip (K : PySem.W.Frag) (C : Addr) : Sp := fun vs H Q _ => ∃ (h a : Addr) (n : Nat) (arcs : List (Int × Int)) (l : List Int), vs = [.ref h, .ref a] ∧ NetAt K C H h n arcs ∧ SqT K H a (l.map V.int) ∧ (∀ i ∈ l, 0 ≤ i ∧ i < (n : Int)) ∧ l.length ≤ 1000 ∧
  ∀ H' D r, Gr none H H' → H' D = some (.lst (r.map V.int)) → (r = [] ↔ NoRing arcs l) → Q (.ref D) H'
theorem tp_ints : ∀ {H : Hp} {ys : List V} {l : List Int} (f : Int → Bool), TpAll K H ys ((l.filter f).map fun i => PyData.int i) → ys = (l.filter f).map V.int := fun f t => TpAll.ints t
theorem ok_strip {f C : Addr} {fd : FuncData} {k : Nat} (F : Fun K "stripped" "stripped" sStrip f fd) (B : Bi mg) : FnOk P w K mg base CX0 (k + 1) f fd ["net", "places"] (spStrip K C) := by
  refine F.ok scStrip (fun vs H Q E h => ?_) (fun cdv A outer s H vs Q E hr h => ?_)
  · obtain ⟨h, a, n, arcs, l, rfl, _⟩ := h
    rfl
  · obtain ⟨h, a, n, arcs, l, rfl, hN, hs, hin, hlen, q⟩ := h
    refine ⟨_, pss_cons (ps_set (i := 2) scStrip.nd rfl (Or.inr rfl) (pe_callTy call_list_of (by rfl) B.list (by decide +kernel) (pa_cons (pv 1) pa_nil)))
      (pss_cons (ps_set (i := 3) scStrip.nd rfl (Or.inl rfl) (pe_op op_add (lenS B (pv 2)) pe_int))
      (pss_cons (ps_while PassesOwn.never (pt_cmpR op_lt (lenS B (pv 2)) (pv 3) (nomark _))
        (pss_cons (ps_set (i := 3) scStrip.nd rfl (Or.inl rfl) (lenS B (pv 2)))
        (pss_one (ps_set (i := 2) scStrip.nd rfl (Or.inr rfl) (pe_lc (own := [("place", 4)]) (g := gName 4) rfl scStrip.nd (pi_list (pv 2))
          (bk (N := ["net", "places", "left", "before", "place", "other"]) (defScope sStrip) (by decide +kernel)) (fun _ _ _ _ _ => pg_name (i := 4) scStrip.nd rfl (Or.inl rfl))
          (fun _ _ _ _ _ => pts_one (pt_val (pe_callB (cr_anyK (K := K) rfl) (by rfl) B.any (by decide +kernel) (pa_cons (pe_lc (own := [("other", 5)]) (g := gName 5) (tt := tYes) rfl scStrip.nd (pi_tupK (K := K) (pe_ix (ix_tupK (K := K)) (pe_fldK (K := K) (pv 0)) (pv 4) (fun _ _ => rfl)))
            (bk (N := ["net", "places", "left", "before", "place", "other"]) { kind := .function, names := [(".0", .local), ("place", .local), ("any", .globalImplicit), ("left", .cell), ("net", .cell)], isGenerator := false, isCoroutine := false } (by decide +kernel)) (fun _ _ _ _ _ => pg_name (i := 5) scStrip.nd rfl (Or.inl rfl)) (fun _ _ _ _ _ => pts_nil)
            (fun _ _ _ _ _ => pe_cmpR (op_inK (K := K)) (pv 5) (pv 2) (by rfl))) pa_nil))))
          (fun _ _ _ _ _ => pv 4))))))
      (pss_one (ps_ret (pv 2))))), ?_⟩
    refine ⟨.ref a, rfl, a, _, rfl, .inr hs, fun D hD => ?_⟩
    refine ⟨.ref D, rfl, D, _, rfl, .inl (SqL.of upd_same), _, _, rfl, rfl, ?_⟩
    have g0 : Gr none H (upd H D (.lst (l.map V.int))) := Gr.new hD
    refine while_by (fun σ H2 => ∃ (b : Nat) (M : Addr) (m : List Int) (y4 y5 : Option V), σ = [some (.ref h), some (.ref a), some (.ref M), some (.int b), y4, y5] ∧ Gr none H H2 ∧ H2 M = some (.lst (m.map V.int)) ∧ Comes arcs l m ∧ (b = m.length + 1 ∨ ∃ m0, Comes arcs l m0 ∧ m = strip1 arcs m0 ∧ b = m0.length))
      (fun σ _ => match σ with | [_, _, _, some (.int b), _, _] => b.toNat | _ => 0) ⟨l.length + 1, D, l, none, none, ?_, g0, upd_same, .refl, .inl rfl⟩ (fun σ H2 hP => ?_) (fun σ H2 Q1 Q2 hq hh => ?_)
    · rw [List.length_map]; rfl
    · obtain ⟨b, M, m, y4, y5, rfl, g, hM, cm, hb⟩ := hP
      refine ⟨.ref M, rfl, M, _, rfl, .inl (SqL.of hM), .int b, rfl, _, _, rfl, rfl, _, rfl, ite2 (fun z => ?_) (fun z => ?_)⟩
      · have z1 := of_decide_eq_true z
        rw [List.length_map] at z1
        have hml := cm.len
        refine ⟨.ref M, rfl, M, _, rfl, .inl (SqL.of hM), .ref M, rfl, M, rfl, ⟨_, SqL.of hM⟩, fun D1 hD1 => ?_⟩
        refine lcL (K := K) (as := m) (xs := m.map V.int) (by rw [List.length_map]) (by rw [List.length_map]; omega) hD1 (SqL.of hM) (fun i => (knowsI arcs i).any fun j => decide (j ∈ m)) (fun i => .int i) (fun i al x H3 Acc No h1 h2 g3 hac hno => ?_) (fun H3 ys g3 e3 t3 => ?_)
        · rw [List.getElem?_map, h1] at h2
          cases h2
          have hal := hin al (cm.sub al (List.mem_of_getElem? h1))
          have hN3 := hN.gr0 (g.trans g3)
          have hkl := kn_len hN al
          obtain ⟨C1, dx1, fs1, ka, kx, oa, e1, e2, e3, e4, hks, hat, hos⟩ := hN3.kn hal.1 hal.2
          refine ⟨rfl, .ref h, rfl, h, C1, dx1, fs1, .ref ka, rfl, e1, e2, e3, e4, .int al, rfl, ka, kx, al, .ref oa, rfl, rfl, hks, hat, oa, rfl, ⟨_, hos⟩, fun D2 hD2 => ?_⟩
          refine lcT (K := K) (as := knowsI arcs al) (xs := (knowsI arcs al).map V.int) (List.length_map (f := V.int)).symm (by rw [List.length_map (f := V.int)]; omega) hD2 hos (fun _ => true) (fun j => .bool (decide (j ∈ m))) (fun i2 al2 x2 H4 Acc2 No2 k1 k2 g4 hac2 _ => ?_) (fun H4 ys g4 e4 t4 => ?_)
          · rw [List.getElem?_map, k1] at k2
            cases k2
            refine ⟨rfl, .int al2, rfl, .ref M, rfl, M, _, rfl, .inl (SqL.of (g4.lst (g3.lst hM))), rfl, flat_ints m, ?_⟩
            refine hac2 rfl _ _ Gr.refl ?_
            rw [inV_ints]
            exact .bl _
          · rw [List.filter_eq_self.mpr (fun _ _ => rfl)] at t4
            have e5 := TpAll.bls (ns := (knowsI arcs al).map fun j => decide (j ∈ m)) (by rw [List.map_map]; exact t4)
            subst e5
            refine ⟨D2, _, rfl, SqL.of e4, _, rfl, ite2 (fun zz => ?_) (fun zz => ?_)⟩
            · refine ⟨.int al, rfl, hac ?_ _ _ g4 (.int _)⟩
              rw [List.any_map] at zz
              exact zz
            · refine hno ?_ _ g4
              rw [List.any_map] at zz
              exact Bool.not_eq_true _ ▸ zz
        · have e5 := tp_ints _ t3
          subst e5
          refine ⟨⟨m.length, D1, strip1 arcs m, y4, y5, ?_, g.trans g3, e3, .step cm, .inr ⟨m, cm, rfl, rfl⟩⟩, ?_⟩
          · rw [List.length_map]; rfl
          · show Int.toNat ((m.map V.int).length : Nat) < Int.toNat (b : Nat)
            rw [List.length_map]
            omega
      · have z1 : ¬ ((m.map V.int).length : Int) < (b : Int) := fun y => z (decide_eq_true y)
        rw [List.length_map] at z1
        refine ⟨.ref M, rfl, ?_⟩
        rcases hb with hb | ⟨m0, c0, rfl, hb⟩
        · omega
        · have hle : (strip1 arcs m0).length ≤ m0.length := List.length_filter_le _ _
          have he : (strip1 arcs m0).length = m0.length := by omega
          have e2 : strip1 arcs m0 = m0 := List.Sublist.eq_of_length (List.filter_sublist) he
          rw [e2] at hM
          exact q _ M m0 g hM (comes_end c0 he)
    · obtain ⟨v1, w1, p1, ys1, w2, w3, v2, w4, i1, j1, w5, w6, k1, w7, w8⟩ := hh
      exact ⟨v1, w1, p1, ys1, w2, w3, v2, w4, i1, j1, w5, w6, k1, w7, hq _ _ w8⟩
def intsD (l : List Int) : PyData := .tuple (l.map PyData.int)
theorem lotB_ints {d : PyData} {n : Int} (h : lotB d n = true) : ∃ l : List Int, d = intsD l ∧ (∀ i ∈ l, 0 ≤ i ∧ i < n) ∧ risB l = true := by
  cases d with
  | tuple ds =>
    have h' : (ds.all (fun d => isB d n) && risB (ds.map iOf)) = true := h
    rw [Bool.and_eq_true] at h'
    refine ⟨ds.map iOf, congrArg PyData.tuple (all_isB h'.1), fun i hi => ?_, h'.2⟩
    obtain ⟨d, hd, rfl⟩ := List.mem_map.mp hi
    have e := List.all_eq_true.mp h'.1 d hd
    have e2 := isB_int e
    rw [e2] at e
    have e3 : (decide (0 ≤ iOf d) && decide (iOf d < n)) = true := e
    rw [Bool.and_eq_true, decide_eq_true_eq, decide_eq_true_eq] at e3
    exact e3
  | _ => exact Bool.noConfusion h
def spCan (K : PySem.W.Frag) (C CLot : Addr) : Sp := fun vs H Q E => ∃ (h : Addr) (v : V) (d : PyData) (n : Nat) (arcs : List (Int × Int)), vs = [.ref h, v] ∧ NetAt K C H h n arcs ∧ Dp K H v d ∧ (∀ ds, d = .tuple ds → ds.length ≤ 1000) ∧
  (lotB d n = true → ∀ l, d = intsD l → ∀ b H', Gr none H H' → (b = true ↔ NoRing arcs l) → Q (.bl b) H') ∧ (lotB d n = false → ∀ dx H', Gr none H H' → H' dx = some (.xd [("value", v)]) → E (.ref CLot) (some dx) H')
theorem ok_can {f C CLot : Addr} {fd : FuncData} {k : Nat} (F : Fun K "can_order" "can_order" sCan f fd) (B : Bi mg) (X1 : Err P w K mg base "InvalidLot" "value" CLot) (L1 : Cal P w K mg base CX0 3 "is_lot" ["value", "size"] (spLot K)) (L2 : Cal P w K mg base CX0 1 "stripped" ["net", "places"] (spStrip K C)) :
    FnOk P w K mg base (L2N.CX P w) (k + 4) f fd ["net", "lot"] (spCan K C CLot) := by
  obtain ⟨fL, fdL, okL, gL, kL, bL⟩ := L1.ex
  obtain ⟨fS, fdS, okS, gS, kS, bS⟩ := L2.ex
  obtain ⟨fI, fdI, iC, tI, okI, bI⟩ := X1.ex
  refine okXN F scCan (fun vs H Q E h => ?_) (fun cdv A outer s H vs Q E hr h => ?_)
  · obtain ⟨h, v, d, n, arcs, rfl, _⟩ := h
    rfl
  · obtain ⟨h, v, d, n, arcs, rfl, hN, hd, hz, q, qe⟩ := h
    refine ⟨_, pss_cons (ps_if (pt_not (pt_val (pe_call okL (hr.mono (by omega)) (by rfl) gL kL bL .nil pass0 (pa_cons (pv 1) (pa_cons (pe_fld (pv 0) rfl) pa_nil))))) (pss_one (L2N.ps_raise rfl (L2N.takes_of rfl rfl rfl rfl) (R4.pmk_oexN X1.oex iC tI okI (hr.mono (by omega)) bI pass0 (by rfl) X1.g (pa_cons (pv 1) pa_nil)))) pss_nil)
      (pss_one (ps_ret (pe_cmpR op_eq (lenS B (pe_call okS (hr.mono (by omega)) (by rfl) gS kS bS .nil pass0 (pa_cons (pv 0) (pa_cons (pv 1) pa_nil)))) pe_int (nomark _)))), ?_⟩
    obtain ⟨C1, dx1, fs1, e1, e2, e3, e4⟩ := hN.sz
    refine ⟨v, rfl, .ref h, rfl, h, C1, dx1, fs1, .int n, rfl, e1, e2, e3, e4, v, d, n, rfl, hd, hz, fun H1 g1 => ?_⟩
    refine ⟨_, rfl, ite2 (fun z => ?_) (fun z => ?_)⟩
    · have hlb : lotB d n = false := by
        cases hh : lotB d n with
        | false => rfl
        | true => rw [hh] at z; cases z
      exact ⟨v, rfl, mk_cont X1.oex X1.no fun dx H' _ g e => qe hlb dx H' (g1.trans g) e⟩
    · have hlb : lotB d n = true := by
        cases hh : lotB d n with
        | true => rfl
        | false => exact absurd (by rw [hh]; rfl) z
      obtain ⟨l, rfl, hin, hri⟩ := lotB_ints hlb
      have hd1 := Dp.gr g1 hd
      cases hd1 with
      | @tup a xs ds hs hx =>
        have e5 := DpAll.ints hx
        subst e5
        have hl := hz _ rfl
        rw [List.length_map] at hl
        refine ⟨.ref h, rfl, .ref a, rfl, h, a, n, arcs, l, rfl, hN.gr0 g1, hs, hin, hl, fun H2 D r g2 hD hr2 => ?_⟩
        refine ⟨D, _, rfl, .inl (SqL.of hD), rfl, ?_⟩
        refine q hlb l rfl _ H2 (g1.trans g2) ?_
        rw [← hr2, decide_eq_true_eq, List.length_map]
        constructor
        · intro e
          have := V.int.inj e
          exact List.eq_nil_of_length_eq_zero (by omega)
        · rintro rfl
          rfl
end
end Lk

namespace Lk
open PySem PySem.Spec PyProof.Rows L2 GxR RZ
theorem lay_ints : ∀ l : List Int, PyData.canLayAll0 (l.map PyData.int) = true ∧ PyData.depthAll (l.map PyData.int) = 0
  | [] => by simp [PyData.canLayAll0, PyData.depthAll]
  | a :: r => by
    have h := lay_ints r
    simp [PyData.canLayAll0, PyData.depthAll, PyData.canLay0, PyData.depth, h.1, h.2]
theorem shaped_ints (l : List Int) : SeqAt.shaped (.list (l.map PyData.int)) = true := by
  have h := lay_ints l
  unfold SeqAt.shaped
  simp [PyData.canLay0, PyData.depth, h.1, h.2]
theorem eqv_nil (l : List Int) : PyData.eqv (.list (l.map PyData.int)) (.list []) = decide (l = []) := by
  cases l with
  | nil => rfl
  | cons a r => rfl
theorem freeB_filter (arcs : List (Int × Int)) (l : List Int) (i : Int) : decide (((knowsI arcs i).filter fun j => decide (j ∈ l)) = []) = freeB arcs l i := by
  unfold freeB
  rw [Bool.eq_iff_iff, decide_eq_true_eq, List.filter_eq_nil_iff, List.all_eq_true]
  simp
theorem risB_lt : ∀ {l : List Int}, risB l = true → l.Pairwise (· < ·)
  | [], _ => .nil
  | [x], _ => List.pairwise_singleton _ _
  | x :: y :: r, h => by
    have h' : (decide (x < y) && risB (y :: r)) = true := h
    rw [Bool.and_eq_true, decide_eq_true_eq] at h'
    have ih := risB_lt h'.2
    refine List.pairwise_cons.mpr ⟨fun z hz => ?_, ih⟩
    rcases List.mem_cons.mp hz with e | e
    · subst e; exact h'.1
    · have := (List.pairwise_cons.mp ih).1 z e
      omega
theorem risB_nodup {l : List Int} (h : risB l = true) : l.Nodup := (risB_lt h).imp fun h => by omega
section
variable {P : Program} {w : World} {K : PySem.W.Frag} {mg : Str → Option Value} {base : Heap}
/-! ### the errors' __init__ -/
abbrev sErr (i : Nat) : Stmt := inClass (top i) 0
theorem scErr3 : FnScope ["self", "value"] ["self", "value"] (defScope (sErr 3)) := ⟨rfl, rfl, rfl, by decide +kernel, rfl, by decide +kernel, by decide +kernel⟩
theorem scErr7 : FnScope ["self", "value"] ["self", "value"] (defScope (sErr 7)) := ⟨rfl, rfl, rfl, by decide +kernel, rfl, by decide +kernel, by decide +kernel⟩
theorem scErr17 : FnScope ["self", "what"] ["self", "what"] (defScope (sErr 17)) := ⟨rfl, rfl, rfl, by decide +kernel, rfl, by decide +kernel, by decide +kernel⟩
theorem ok_err3 {f C : Addr} {fd : FuncData} {k : Nat} (F : Fun K "__init__" "InvalidNumber.__init__" (sErr 3) f fd) : FnOk P w K mg base CX0 (k + 1) f fd ["self", "value"] (spErr K C "value") := by
  refine F.ok scErr3 (fun vs H Q E h => ?_) (fun cdv A outer s H vs Q E hr h => ?_)
  · obtain ⟨a, v, rfl, _⟩ := h; rfl
  · obtain ⟨a, v, rfl, h1, h2, h3, q⟩ := h
    exact ⟨_, pss_one (ps_ost (pv 0) (pv 1)), v, rfl, .ref a, rfl, a, C, rfl, h1, h2, .inl ⟨h3, fun dx hd ne => q dx hd ne⟩⟩
theorem ok_err7 {f C : Addr} {fd : FuncData} {k : Nat} (F : Fun K "__init__" "InvalidLot.__init__" (sErr 7) f fd) : FnOk P w K mg base CX0 (k + 1) f fd ["self", "value"] (spErr K C "value") := by
  refine F.ok scErr7 (fun vs H Q E h => ?_) (fun cdv A outer s H vs Q E hr h => ?_)
  · obtain ⟨a, v, rfl, _⟩ := h; rfl
  · obtain ⟨a, v, rfl, h1, h2, h3, q⟩ := h
    exact ⟨_, pss_one (ps_ost (pv 0) (pv 1)), v, rfl, .ref a, rfl, a, C, rfl, h1, h2, .inl ⟨h3, fun dx hd ne => q dx hd ne⟩⟩
theorem ok_err17 {f C : Addr} {fd : FuncData} {k : Nat} (F : Fun K "__init__" "Undefined.__init__" (sErr 17) f fd) : FnOk P w K mg base CX0 (k + 1) f fd ["self", "what"] (spErr K C "what") := by
  refine F.ok scErr17 (fun vs H Q E h => ?_) (fun cdv A outer s H vs Q E hr h => ?_)
  · obtain ⟨a, v, rfl, _⟩ := h; rfl
  · obtain ⟨a, v, rfl, h1, h2, h3, q⟩ := h
    exact ⟨_, pss_one (ps_ost (pv 0) (pv 1)), v, rfl, .ref a, rfl, a, C, rfl, h1, h2, .inl ⟨h3, fun dx hd ne => q dx hd ne⟩⟩
/-! ### _first_free -/
abbrev sFree : Stmt := top 55
theorem scFree : FnScope ["net", "left", "place", "other"] ["net", "left"] (defScope sFree) := ⟨rfl, rfl, rfl, by decide +kernel, rfl, by decide +kernel, by decide +kernel⟩
def spFree (K : PySem.W.Frag) (C : Addr) : Sp := fun vs H Q _ => ∃ (h a : Addr) (n : Nat) (arcs : List (Int × Int)) (l : List Int) (x : Int) (r : List Int), vs = [.ref h, .ref a] ∧ NetAt K C H h n arcs ∧ SqL K H a (l.map V.int) ∧ (∀ i ∈ l, 0 ≤ i ∧ i < (n : Int)) ∧ l.length ≤ 1000 ∧
  l.filter (freeB arcs l) = x :: r ∧ ∀ H', Gr none H H' → Q (.int x) H'
theorem filter_first {α : Type} {f : α → Bool} : ∀ {l : List α} {x : α} {r : List α} {i : Nat}, l.filter f = x :: r → (∀ y ∈ l.take i, f y = false) → (i < l.length → ∀ y, l[i]? = some y → f y = true → y = x) ∧ i ≠ l.length := by
  intro l x r i h hn
  have e : l = l.take i ++ l.drop i := (List.take_append_drop i l).symm
  have e2 : (l.take i).filter f = [] := List.filter_eq_nil_iff.mpr fun y hy => by rw [hn y hy]; decide
  rw [e, List.filter_append, e2, List.nil_append] at h
  constructor
  · intro hi y hy fy
    rw [List.drop_eq_getElem_cons hi, List.filter_cons] at h
    have ey : l[i] = y := by rw [List.getElem?_eq_getElem hi] at hy; exact Option.some.inj hy
    rw [ey, if_pos fy] at h
    exact (List.cons.inj h).1
  · rintro rfl
    rw [List.drop_length] at h
    cases h
theorem ok_free {f C : Addr} {fd : FuncData} {k : Nat} (F : Fun K "_first_free" "_first_free" sFree f fd) (B : Bi mg) : FnOk P w K mg base CX0 (k + 1) f fd ["net", "left"] (spFree K C) := by
  refine F.ok scFree (fun vs H Q E h => ?_) (fun cdv A outer s H vs Q E hr h => ?_)
  · obtain ⟨h, a, n, arcs, l, x, r, rfl, _⟩ := h
    rfl
  · obtain ⟨h, a, n, arcs, l, x, r, rfl, hN, hs, hin, hlen, hfx, q⟩ := h
    refine ⟨_, pss_cons (ps_for PassesOwn.never rfl (pi_list (pv 1)) (pg_name (i := 2) scFree.nd rfl (Or.inl rfl))
        (pss_one (ps_if (pt_cmpR (op_eqD hr.units) (pe_lc (own := [("other", 3)]) (g := gName 3) rfl scFree.nd (pi_tup (pe_ix ix_tup (pe_fld (pv 0) rfl) (pv 2) (fun _ _ => rfl)))
            (bk (N := ["net", "left", "place", "other"]) (defScope sFree) (by decide +kernel)) (fun _ _ _ _ _ => pg_name (i := 3) scFree.nd rfl (Or.inl rfl))
            (fun _ _ _ _ _ => pts_one (pt_cmpR (op_inK (K := K)) (pv 3) (pv 1) (by rfl))) (fun _ _ _ _ _ => pv 3)) (pe_lst pa_nil) (nomark _))
          (pss_one (ps_ret (pv 2))) pss_nil)))
      (pss_one ps_never), ?_⟩
    refine ⟨.ref a, rfl, a, rfl, ⟨_, hs⟩, ?_⟩
    refine for_it (walk_list (K := K) (a := a) (xs := l.map V.int)) (fun i σ H2 => Gr none H H2 ∧ (∀ y ∈ l.take i, freeB arcs l y = false) ∧ ∃ (y2 y3 : Option V), σ = [some (.ref h), some (.ref a), y2, y3])
      ⟨Gr.refl, by simp, none, none, rfl⟩ (fun i σ H2 _ hh => hh.1.sqL hs) (fun i xv σ H0 H2 hi hP y => ?_) fun σ H2 hP => ?_
    · obtain ⟨g, hnf, y2, y3, rfl⟩ := hP
      obtain ⟨rfl, ex⟩ := y
      rw [List.length_map] at hi
      rw [List.getElem?_map, List.getElem?_eq_getElem hi] at ex
      cases ex
      have hal := hin _ (List.getElem_mem hi)
      have hgi : l[i]? = some l[i] := List.getElem?_eq_getElem hi
      generalize l[i] = al at *
      have hkl := kn_len hN al
      obtain ⟨C1, dx1, fs1, ka, kx, oa, e1, e2, e3, e4, hks, hat, hos⟩ := (hN.gr0 g).kn hal.1 hal.2
      refine ⟨.ref h, rfl, h, C1, dx1, fs1, .ref ka, rfl, e1, e2, e3, e4, .int al, rfl, ka, kx, al, .ref oa, rfl, rfl, hks, hat, oa, rfl, ⟨_, hos⟩, fun D2 hD2 => ?_⟩
      refine lcT (K := K) (as := knowsI arcs al) (xs := (knowsI arcs al).map V.int) (List.length_map (f := V.int)).symm (by rw [List.length_map (f := V.int)]; omega) hD2 hos (fun j => decide (j ∈ l)) (fun j => .int j) (fun i2 al2 x2 H4 Acc2 No2 k1 k2 g4 hac2 hno2 => ?_) (fun H4 ys g4 e4 t4 => ?_)
      · rw [List.getElem?_map, k1] at k2
        cases k2
        refine ⟨rfl, .int al2, rfl, .ref a, rfl, a, _, rfl, .inl (g4.sqL (g.sqL hs)), rfl, flat_ints l, _, rfl, ite2 (fun z => ?_) (fun z => ?_)⟩
        · rw [inV_ints] at z
          exact ⟨.int al2, rfl, hac2 z _ _ Gr.refl (.int _)⟩
        · rw [inV_ints] at z
          exact hno2 (by rw [Bool.not_eq_true] at z; exact z) _ Gr.refl
      · have e5 := tp_ints _ t4
        subst e5
        refine ⟨Nat.zero_le _, fun z hz => ?_⟩
        have g5 : Gr none H4 (upd H4 z (.lst [])) := Gr.new hz
        refine ⟨_, _, .lst (SqL.of (g5.lst e4)) (TpAll.of_ints (K := K)).dp, .lst (SqL.of upd_same) .nil, shaped_ints _, shaped_ints [], _, rfl, ?_⟩
        rw [eqv_nil, freeB_filter]
        refine ite2 (fun zz => ⟨.int al, rfl, ?_⟩) (fun zz => ⟨(g.trans g4).trans g5, fun y hy => ?_, _, _, rfl⟩)
        · rw [(filter_first hfx hnf).1 hi al hgi zz]
          exact q _ ((g.trans g4).trans g5)
        · rw [List.take_add_one, hgi] at hy
          rcases List.mem_append.mp hy with e | e
          · exact hnf y e
          · rw [Option.toList_some, List.mem_singleton] at e
            rw [e]
            rw [Bool.not_eq_true] at zz
            exact zz
    · obtain ⟨g, hnf, y2, y3, rfl⟩ := hP
      rw [List.length_map] at hnf
      exact absurd rfl (filter_first hfx hnf).2
end
end Lk

namespace Lk
open PySem PySem.Spec PyProof.Rows L2 GxR RZ
/-! ### the ladder of a lot -/
abbrev outR (n : Nat) (l : List Int) : List (List Int) := ((List.range n).filter fun (i : Nat) => decide ((i : Int) ∉ l)).map fun (i : Nat) => unitR n [(i : Int)]
abbrev stD (st : List Int) : PyData := .tuple (st.map fun i => rowD [i, 0])
abbrev ladD (n : Nat) (l st : List Int) : PyData := .tuple [matD (outR n l), stD st]
/-- the lot's left and the steps after t turns -/
theorem takeF_step {arcs : List (Int × Int)} {m : Nat} {l st : List Int} (h : takeF arcs (m + 1) l = some st) : ∃ x r st', l.filter (freeB arcs l) = x :: r ∧ takeF arcs m (l.filter fun i => decide (i ≠ x)) = some st' ∧ st = x :: st' := by
  unfold takeF at h
  cases e : l.filter (freeB arcs l) with
  | nil => rw [e] at h; cases h
  | cons x r =>
    rw [e] at h
    obtain ⟨s2, h1, rfl⟩ := Option.map_eq_some_iff.mp h
    exact ⟨x, r, s2, rfl, h1, rfl⟩
section
variable {P : Program} {w : World} {K : PySem.W.Frag} {mg : Str → Option Value} {base : Heap}
abbrev sLad : Stmt := top 56
theorem scLad : FnScope ["net", "p", "lot", "outside", "place", "steps", "left", "_", "column", "other"] ["net", "p", "lot"] (defScope sLad) := ⟨rfl, rfl, rfl, by decide +kernel, rfl, by decide +kernel, by decide +kernel⟩
structure LadP (K : PySem.W.Frag) (CNum CLot CUnd : Addr) (pv lv : V) (dp dl : PyData) (n : Nat) (arcs : List (Int × Int)) (H : Hp) (Q : VK) (E : XK) : Prop where
  num : isF dp = false → ∀ dx H', Gr none H H' → H' dx = some (.xd [("value", pv)]) → E (.ref CNum) (some dx) H'
  lot : isF dp = true → lotB dl n = false → ∀ dx H', Gr none H H' → H' dx = some (.xd [("value", lv)]) → E (.ref CLot) (some dx) H'
  und : isF dp = true → ∀ l, dl = intsD l → lotB dl n = true → takeF arcs l.length l = none → ∀ dx H', Gr none H H' → H' dx = some (.xd [("what", .str "ladder")]) → E (.ref CUnd) (some dx) H'
  lad : isF dp = true → ∀ l st, dl = intsD l → lotB dl n = true → takeF arcs l.length l = some st → ∀ v H', Gr none H H' → Tp K H' v (ladD n l st) → Q v H'
def spLad (K : PySem.W.Frag) (C CNum CLot CUnd : Addr) : Sp := fun vs H Q E => ∃ (h : Addr) (pv lv : V) (dp dl : PyData) (n : Nat) (arcs : List (Int × Int)), vs = [.ref h, pv, lv] ∧ NetAt K C H h n arcs ∧ Dp K H pv dp ∧ Dp K H lv dl ∧ (∀ ds, dl = .tuple ds → ds.length ≤ 1000) ∧
  LadP K CNum CLot CUnd pv lv dp dl n arcs H Q E
theorem ok_lad {f C CNum CLot CUnd : Addr} {fd : FuncData} {k : Nat} (F : Fun K "lot_ladder" "lot_ladder" sLad f fd) (B : Bi mg) (X1 : Err P w K mg base "InvalidNumber" "value" CNum) (X2 : Err P w K mg base "Undefined" "what" CUnd) (L1 : Cal P w K mg base CX0 1 "is_field" ["p"] (spField K))
    (L2 : Cal P w K mg base (L2N.CX P w) 4 "can_order" ["net", "lot"] (spCan K C CLot)) (L3 : Cal P w K mg base CX0 1 "_first_free" ["net", "left"] (spFree K C)) : FnOk P w K mg base (L2N.CX P w) (k + 5) f fd ["net", "p", "lot"] (spLad K C CNum CLot CUnd) := by
  obtain ⟨fF, fdF, okF, gF, kF, bF⟩ := L1.ex
  obtain ⟨fC, fdC, okC, gC, kC, bC⟩ := L2.ex
  obtain ⟨fR, fdR, okR, gR, kR, bR⟩ := L3.ex
  obtain ⟨fI, fdI, iC, tI, okI, bI⟩ := X1.ex
  obtain ⟨fU, fdU, iU, tU, okU, bU⟩ := X2.ex
  refine okXN F scLad (fun vs H Q E h => ?_) (fun cdv A outer s H vs Q E hr h => ?_)
  · obtain ⟨h, vp, vl, dp, dl, n, arcs, rfl, _⟩ := h
    rfl
  · obtain ⟨h, vp, vl, dp, dl, n, arcs, rfl, hN, hdp, hdl, hz, hP⟩ := h
    have tk : L2N.Takes (cxOf (L2N.CX P w) P w K mg base ["net", "p", "lot", "outside", "place", "steps", "left", "_", "column", "other"] "lot_ladder" (defScope sLad) f cdv A outer s H E) (fun cls d _ H => E cls d H) := L2N.takes_of rfl rfl rfl rfl
    refine ⟨_, pss_cons (ps_if (pt_not (pt_val (pe_call okF (hr.mono (by omega)) (by rfl) gF kF bF .nil pass0 (pa_cons (pv 1) pa_nil)))) (pss_one (L2N.ps_raise rfl tk (R4.pmk_oexN X1.oex iC tI okI (hr.mono (by omega)) bI pass0 (by rfl) X1.g (pa_cons (pv 1) pa_nil)))) pss_nil)
      (pss_cons (ps_if (pt_not (pt_val (pe_call okC (hr.mono (by omega)) (by rfl) gC kC bC .nil (L2N.passes_call (E := E) tk (fun _ _ _ _ h => h)) (pa_cons (pv 0) (pa_cons (pv 2) pa_nil))))) (pss_one (L2N.ps_raise rfl tk (R4.pmk_oexN X2.oex iU tU okU (hr.mono (by omega)) bU pass0 (by rfl) X2.g (pa_cons pe_str pa_nil)))) pss_nil)
      (pss_cons (ps_set (i := 3) scLad.nd rfl (Or.inl rfl) (pe_lst pa_nil))
      (pss_cons (ps_for (passes_of rfl) rfl (pi_range1 (by rfl) B.range (pa_cons (pe_fld (pv 0) rfl) pa_nil)) (pg_name (i := 4) scLad.nd rfl (Or.inr rfl))
        (pss_one (ps_if (pt_cmpR op_notIn_seq (pv 4) (pv 2) (by rfl)) (pss_one (ps_expr (pe_bm PySem.F.plainAttrs_list PySem.F.slot_list_append PySem.F.type_list_append mt_append (pv 3) (pa_cons
          (pe_callTy call_tuple_of (by rfl) B.tuple (by decide +kernel) (pa_cons (pe_lc (own := [("column", 8)]) (g := gName 8) (tt := tYes) rfl scLad.nd (pi_range1 (by rfl) B.range (pa_cons (pe_fld (pv 0) rfl) pa_nil))
            (bk (N := ["net", "p", "lot", "outside", "place", "steps", "left", "_", "column", "other"]) (defScope sLad) (by decide +kernel)) (fun _ _ _ _ _ => pg_name (i := 8) scLad.nd rfl (Or.inl rfl)) (fun _ _ _ _ _ => pts_nil)
            (fun _ _ _ _ _ => pe_callTy call_int1 (by rfl) B.int (by decide +kernel) (pa_cons (pe_cmpR op_eq (pv 8) (pv 4) (nomark _)) pa_nil))) pa_nil)) pa_nil)))) pss_nil)))
      (pss_cons (ps_set (i := 5) scLad.nd rfl (Or.inl rfl) (pe_lst pa_nil))
      (pss_cons (ps_set (i := 6) scLad.nd rfl (Or.inl rfl) (pe_callTy call_list_of (by rfl) B.list (by decide +kernel) (pa_cons (pv 2) pa_nil)))
      (pss_cons (ps_for (passes_of rfl) rfl (pi_tup (pv 2)) (pg_name (i := 7) scLad.nd rfl (Or.inl rfl))
        (pss_cons (ps_set (i := 4) scLad.nd rfl (Or.inr rfl) (pe_call okR (hr.mono (by omega)) (by rfl) gR kR bR .nil pass0 (pa_cons (pv 0) (pa_cons (pv 6) pa_nil))))
        (pss_cons (ps_expr (pe_bm PySem.F.plainAttrs_list PySem.F.slot_list_append PySem.F.type_list_append mt_append (pv 5) (pa_cons (pe_tup (pa_cons (pv 4) (pa_cons pe_int pa_nil))) pa_nil)))
        (pss_one (ps_setLc (i := 6) (own := [("other", 9)]) (g := gName 9) rfl scLad.nd rfl rfl (sw_true rfl rfl rfl (by decide +kernel)) (pi_list (pv 6))
            (bk (N := ["net", "p", "lot", "outside", "place", "steps", "left", "_", "column", "other"]) (defScope sLad) (by decide +kernel)) (fun _ _ _ _ _ => pg_name (i := 9) scLad.nd rfl (Or.inl rfl))
            (fun _ _ _ _ _ => pts_one (pt_cmpR op_ne (pv 9) (pv 4) (nomark _))) (fun _ _ _ _ _ => pv 9))))))
      (pss_one (ps_ret (pe_tup (pa_cons (pe_callTy call_tuple_of (by rfl) B.tuple (by decide +kernel) (pa_cons (pv 3) pa_nil)) (pa_cons (pe_callTy call_tuple_of (by rfl) B.tuple (by decide +kernel) (pa_cons (pv 5) pa_nil)) pa_nil))))))))))), ?_⟩
    have nle : ∀ {k : Nat}, k ≤ 1000 → k < sizeLine := fun h => Nat.lt_of_le_of_lt h (by decide)
    refine ⟨vp, rfl, vp, dp, rfl, hdp, _, rfl, ite2 (fun z => ?_) (fun z => ?_)⟩
    · have hF : isF dp = false := by
        cases hh : isF dp with
        | false => rfl
        | true => rw [hh] at z; cases z
      exact ⟨vp, rfl, mk_cont X1.oex X1.no fun dx H' _ g e => hP.num hF dx H' g e⟩
    have hF : isF dp = true := by
      cases hh : isF dp with
      | true => rfl
      | false => exact absurd (by rw [hh]; rfl) z
    refine ⟨.ref h, rfl, vl, rfl, h, vl, dl, n, arcs, rfl, hN, hdl, hz, fun hlb l hl b H1 g1 hb => ?_, fun hlb dx H' g e => hP.lot hF hlb dx H' g e⟩
    subst hl
    obtain ⟨l2, el2, hin, hri⟩ := lotB_ints hlb
    have hll : l2 = l := by
      have e : l.map PyData.int = l2.map PyData.int := PyData.tuple.inj el2
      exact ((List.map_inj_right (fun a b h => PyData.int.inj h)).mp e).symm
    subst hll
    have hnd := risB_nodup hri
    have htk := take_ring (arcs := arcs) l2.length l2 rfl hnd
    have hlen := hz _ rfl
    rw [List.length_map] at hlen
    refine ⟨b, rfl, ite2 (fun z => ?_) (fun z => ?_)⟩
    · have hbf : b = false := by
        cases b with
        | false => rfl
        | true => cases z
      subst hbf
      exact mk_cont X2.oex X2.no fun dx H' _ g e => hP.und hF l2 rfl hlb (htk.mpr fun nr => Bool.noConfusion (hb.mpr nr)) dx H' (g1.trans g) e
    have hbt : b = true := by
      cases b with
      | true => rfl
      | false => exact absurd rfl z
    subst hbt
    have hsome : takeF arcs l2.length l2 ≠ none := fun e => htk.mp e (hb.mp rfl)
    obtain ⟨st, hst⟩ := Option.ne_none_iff_exists'.mp hsome
    obtain ⟨hstl, hstm⟩ := take_mem _ _ _ hst
    have q := hP.lad hF l2 st rfl hlb hst
    have hdl1 := Dp.gr g1 hdl
    cases hdl1 with
    | @tup a xs ds hs1 hx1 =>
    have e5 := DpAll.ints hx1
    subst e5
    -- outside = []
    refine ⟨Nat.zero_le _, fun lo hlo => ?_⟩
    have hlo0 : H lo = none := g1.free0 hlo
    have g2 : Gr none H (upd H1 lo (.lst [])) := g1.trans (Gr.new hlo)
    have h9 := hN.hi
    obtain ⟨C0, dx0, fs0, e1, e2, e3, e4⟩ := (hN.gr0 g2).sz
    have hst0 : ∀ {H2 : Hp}, Gr none H1 H2 → SqT K H2 a (l2.map V.int) := fun g => g.sqT .none hs1
    refine ⟨.ref h, rfl, h, C0, dx0, fs0, .int n, rfl, e1, e2, e3, e4, n, rfl, by omega, by omega, ?_⟩
    refine for_it (walk_range (lo := 0) (n := n)) (fun i σ H2 => Gr none H1 H2 ∧ ∃ (xs : List V) (y4 y5 y6 y7 y8 y9 : Option V), σ = [some (.ref h), some vp, some (.ref a), some (.ref lo), y4, y5, y6, y7, y8, y9] ∧ H2 lo = some (.lst xs) ∧ TpAll K H2 xs ((((List.range i).filter fun (i : Nat) => decide ((i : Int) ∉ l2)).map fun (i : Nat) => unitR n [(i : Int)]).map rowD))
      ⟨Gr.new hlo, [], none, none, none, none, none, none, rfl, upd_same, .nil⟩ (fun i σ H2 _ h => trivial) (fun i x σ H0 H2 hi hQ y => ?_) fun σ H2 hQ => ?_
    · obtain ⟨g, xs, y4, y5, y6, y7, y8, y9, rfl, hL, hx⟩ := hQ
      obtain ⟨rfl, rfl⟩ := y
      refine ⟨.int (0 + i), rfl, .ref a, rfl, a, _, rfl, .inr (hst0 g), rfl, flat_ints l2, _, rfl, ite2 (fun z => ?_) (fun z => ?_)⟩
      · have z1 : (i : Int) ∉ l2 := by
          have z' : (!inV (.int (0 + (i : Int))) (l2.map V.int)) = true := z
          rw [inV_ints, Int.zero_add] at z'
          intro hm
          rw [decide_eq_true hm] at z'
          cases z'
        refine ⟨.ref lo, rfl, .inl ⟨rfl, _, SqL.of hL⟩, ?_⟩
        obtain ⟨C1, dx1, fs1, f1, f2, f3, f4⟩ := (hN.gr0 (g1.trans g)).sz
        refine ⟨.ref h, rfl, h, C1, dx1, fs1, .int n, rfl, f1, f2, f3, f4, n, rfl, by omega, by omega, fun D hD => ?_⟩
        refine lcR (K := K) (n := n) (by omega) hD (fun _ => true) (fun j => .int (if (j : Int) ∈ [(i : Int)] then 1 else 0)) (fun j H3 Acc No hj g3 hac _ => ?_) (fun H3 ys g3 e t => ?_)
        · refine ⟨rfl, .int (0 + j), rfl, .int (0 + i), rfl, rfl, .inr ⟨_, rfl, ?_⟩⟩
          refine hac rfl _ _ Gr.refl ?_
          by_cases hh : (j : Int) ∈ [(i : Int)]
          · rw [if_pos hh]
            have : j = i := by
              have hh2 : (j : Int) = (i : Int) := by simpa using hh
              omega
            subst this
            simp
            exact .int _
          · rw [if_neg hh]
            have : ¬ (j : Int) = (i : Int) := by simpa using hh
            simp [this]
            exact .int _
        · rw [List.filter_eq_self.mpr (fun _ _ => rfl)] at t
          refine ⟨D, ys, rfl, .inl ⟨SqL.of e, fun z2 hz2 => ?_⟩⟩
          have t2 : Tp K (upd H3 z2 (.tup ys)) (.ref z2) (rowD (unitR n [(i : Int)])) := by
            have := tp_tuple (D := D) hz2 t
            unfold unitR
            rw [rowD, List.map_map]
            exact this
          have g4 : Gr none H2 (upd H3 z2 (.tup ys)) := g3.trans (Gr.new hz2)
          have hL4 := g4.lst hL
          have hx4 := hx.gr0 g4
          have hxl := hx.length
          have hle : (((List.range i).filter fun (i : Nat) => decide ((i : Int) ∉ l2))).length ≤ i := Nat.le_trans (List.length_filter_le _ _) (by rw [List.length_range]; exact Nat.le_refl _)
          rw [List.length_map, List.length_map] at hxl
          refine ⟨lo, xs, _, rfl, rfl, hL4, nle (by omega), ?_⟩
          refine ⟨Gr.fresh (g.trans g4) hlo, xs ++ [.ref z2], _, _, _, _, _, _, rfl, upd_same, ?_⟩
          rw [List.range_succ, List.filter_append, List.filter_cons_of_pos (by exact decide_eq_true z1), List.filter_nil, List.map_append, List.map_append]
          exact (hx4.append (.cons t2 .nil)).gr (Gr.at fun ps z => by rw [hL4] at z; cases z) (.lst hL4)
      · have z1 : (i : Int) ∈ l2 := by
          have z' : ¬ (!inV (.int (0 + (i : Int))) (l2.map V.int)) = true := z
          rw [inV_ints, Int.zero_add] at z'
          apply Classical.byContradiction
          intro hm
          rw [decide_eq_false hm] at z'
          exact z' rfl
        refine ⟨g, xs, _, _, _, _, _, _, rfl, hL, ?_⟩
        rw [List.range_succ, List.filter_append, List.filter_cons_of_neg (by rw [decide_eq_true_eq]; exact fun y => y z1), List.filter_nil, List.append_nil]
        exact hx
    obtain ⟨gA, xo, y4, y5, y6, y7, y8, y9, rfl, hLo, hxo⟩ := hQ
    -- steps = []; left = list(lot)
    refine ⟨Nat.zero_le _, fun ls hls => ?_⟩
    have gB : Gr none H1 (upd H2 ls (.lst [])) := gA.trans (Gr.new hls)
    have hlsA : H1 ls = none := gA.free0 hls
    have nlo : lo ≠ ls := ne_of_none hLo hls
    have hLoB := (Gr.new (o := .lst []) hls).lst hLo
    have hxoB := hxo.gr0 (Gr.new (o := .lst []) hls)
    refine ⟨.ref a, rfl, a, _, rfl, .inr (hst0 gB), fun D0 hD0 => ?_⟩
    have gC0 := Gr.new (x := none) (o := .lst (l2.map V.int)) hD0
    have nD0 : D0 ≠ ls := fun e => by rw [e, upd_same] at hD0; cases hD0
    refine ⟨.ref a, rfl, a, rfl, ⟨_, hst0 (gB.trans gC0)⟩, ?_⟩
    refine for_it (walk_tup (K := K) (a := a) (xs := l2.map V.int)) (fun i σ H3 => Gr none H1 H3 ∧ ∃ (L : Addr) (xs : List V) (m : List Int) (y4 y7 y8 y9 : Option V), σ = [some (.ref h), some vp, some (.ref a), some (.ref lo), y4, some (.ref ls), some (.ref L), y7, y8, y9] ∧ L ≠ ls ∧ H3 L = some (.lst (m.map V.int)) ∧ H3 ls = some (.lst xs) ∧ H3 lo = some (.lst xo) ∧
        TpAll K H3 xo ((outR n l2).map rowD) ∧ TpAll K H3 xs ((st.take i).map fun i => rowD [i, 0]) ∧ takeF arcs (l2.length - i) m = some (st.drop i) ∧ (∀ j ∈ m, j ∈ l2) ∧ m.length ≤ l2.length)
      ⟨gB.trans gC0, D0, [], l2, _, _, _, _, rfl, nD0, upd_same, gC0.lst upd_same, gC0.lst hLoB, hxoB.gr0 gC0, .nil, hst, fun j hj => hj, Nat.le_refl _⟩ (fun i σ H3 _ hQ => hst0 hQ.1) (fun i x σ H0 H3 hi hQ y => ?_) fun σ H3 hQ => ?_
    · obtain ⟨g, L, xs, m, y4, y7, y8, y9, rfl, nL, hL, hS, hO, hxo3, hxs, htm, hml, hmle⟩ := hQ
      obtain ⟨rfl, _⟩ := y
      rw [List.length_map] at hi
      obtain ⟨k2, hk2⟩ : ∃ k2, l2.length - i = k2 + 1 := ⟨l2.length - i - 1, by omega⟩
      rw [hk2] at htm
      obtain ⟨x0, r, st', hf, htm', hst'⟩ := takeF_step htm
      have hx0m : x0 ∈ m := (List.mem_filter.mp (show x0 ∈ m.filter (freeB arcs m) by rw [hf]; simp)).1
      refine ⟨.ref h, rfl, .ref L, rfl, h, L, n, arcs, m, x0, r, rfl, hN.gr0 (g1.trans g), SqL.of hL, fun j hj => hin j (hml j hj), by omega, hf, fun H4 g4 => ?_⟩
      refine ⟨.ref ls, rfl, .inl ⟨rfl, _, SqL.of (g4.lst hS)⟩, .int x0, rfl, by show 2 ≤ sizeLine; decide, fun t ht => ?_⟩
      have g5 : Gr none H4 (upd H4 t (.tup [.int x0, .int 0])) := Gr.new ht
      have tt : Tp K (upd H4 t (.tup [.int x0, .int 0])) (.ref t) (rowD [x0, 0]) := .tup (.inl (.inl upd_same)) (.cons (.int _) (.cons (.int _) .nil))
      have g6 := g4.trans g5
      have hS6 := g6.lst hS
      have hL6 := g6.lst hL
      have hO6 := g6.lst hO
      have hxs6 := hxs.gr0 g6
      have hxo6 := hxo3.gr0 g6
      have gH6 := g.trans g6
      generalize upd H4 t (.tup [.int x0, .int 0]) = H6 at *
      have hxl := hxs.length
      rw [List.length_map, List.length_take] at hxl
      refine ⟨ls, xs, _, rfl, rfl, hS6, nle (by omega), ?_⟩
      have ga : Gr (some ls) H6 (upd H6 ls (.lst (xs ++ [.ref t]))) := Gr.at fun ps z => by rw [hS6] at z; cases z
      have hL7 : (upd H6 ls (.lst (xs ++ [.ref t]))) L = some (.lst (m.map V.int)) := by rw [upd_ne nL]; exact hL6
      have hO7 : (upd H6 ls (.lst (xs ++ [.ref t]))) lo = some (.lst xo) := by rw [upd_ne nlo]; exact hO6
      have hS7 : (upd H6 ls (.lst (xs ++ [.ref t]))) ls = some (.lst (xs ++ [.ref t])) := upd_same
      have hxo7 := hxo6.gr ga (.lst hS6)
      have hxs7 := (hxs6.append (.cons tt .nil)).gr ga (.lst hS6)
      have gH7 : Gr none H1 (upd H6 ls (.lst (xs ++ [.ref t]))) := Gr.fresh gH6 hlsA
      generalize upd H6 ls (.lst (xs ++ [.ref t])) = H7 at *
      refine ⟨.ref L, rfl, L, rfl, ⟨_, SqL.of hL7⟩, fun D hD => ?_⟩
      refine lcL (K := K) (as := m) (xs := m.map V.int) (by rw [List.length_map]) (by rw [List.length_map]; omega) hD (SqL.of hL7) (fun i => decide (i ≠ x0)) (fun i => .int i) (fun i3 al x3 H8 Acc No h1 h2 g8 hac hno => ?_) (fun H8 ys g8 e8 t8 => ?_)
      · rw [List.getElem?_map, h1] at h2
        cases h2
        refine ⟨rfl, .int al, rfl, .int x0, rfl, rfl, _, rfl, ite2 (fun zz => ?_) (fun zz => ?_)⟩
        · refine ⟨.int al, rfl, hac (decide_eq_true fun e => ?_) _ _ Gr.refl (.int _)⟩
          subst e
          simp at zz
        · refine hno (decide_eq_false fun e => ?_) _ Gr.refl
          apply zz
          simp [e]
      · have e9 := tp_ints _ t8
        subst e9
        have hS8 := g8.lst hS7
        refine ⟨gH7.trans g8, D, _, _, _, _, _, _, rfl, fun e => ?_, e8, hS8, g8.lst hO7, hxo7.gr0 g8, ?_, ?_, fun j hj => hml j (List.mem_filter.mp hj).1, Nat.le_trans (List.length_filter_le _ _) hmle⟩
        · rw [e, hS7] at hD; cases hD
        · have e10 : st.take (i + 1) = st.take i ++ [x0] := by
            rw [List.take_add_one]
            have : st[i]? = some x0 := by
              have := congrArg List.head? hst'
              rw [List.head?_drop] at this
              exact this
            rw [this]; rfl
          rw [e10, List.map_append]
          exact hxs7.gr0 g8
        · have e11 : st.drop (i + 1) = st' := by
            have := congrArg List.tail hst'
            rw [List.tail_drop] at this
            exact this
          rw [e11, show l2.length - (i + 1) = k2 by omega]
          exact htm'
    · obtain ⟨g, L, xs, m, y4, y7, y8, y9, rfl, nL, hL, hS, hO, hxo3, hxs, htm, hml, hmle⟩ := hQ
      rw [List.length_map, ← hstl, List.take_length] at hxs
      refine ⟨.ref lo, rfl, lo, xo, rfl, .inl ⟨SqL.of hO, fun z1 hz1 => ?_⟩⟩
      have gz1 := Gr.new (x := none) (o := .tup xo) hz1
      refine ⟨.ref ls, rfl, ls, xs, rfl, .inl ⟨SqL.of (gz1.lst hS), fun z2 hz2 => ⟨by show 2 ≤ sizeLine; decide, fun z3 hz3 => ?_⟩⟩⟩
      have gz2 := Gr.new (x := none) (o := .tup xs) hz2
      have gz3 := Gr.new (x := none) (o := .tup [.ref z1, .ref z2]) hz3
      refine q _ _ (g1.trans (g.trans (gz1.trans (gz2.trans gz3)))) (.tup (.inl (.inl upd_same)) (.cons ?_ (.cons ?_ .nil)))
      · exact (Tp.tup (.inl (.inl upd_same)) (hxo3.gr0 gz1)).gr0 (gz2.trans gz3)
      · exact (Tp.tup (.inl (.inl upd_same)) (hxs.gr0 (gz1.trans gz2))).gr0 gz3
end
end Lk

namespace Lk
open PySem PySem.Spec PyProof.Rows L2 GxR RZ
section
variable {P : Program} {w : World} {K : PySem.W.Frag} {mg : Str → Option Value} {base : Heap}
/-! ### _law_taken -/
abbrev sTaken : Stmt := top 64
theorem scTaken : FnScope ["_law_net", "_law_lot", "_law_left", "_law_out", "_law_k", "_law_ready", "_law_i", "_law_arc"] ["_law_net", "_law_lot"] (defScope sTaken) := ⟨rfl, rfl, rfl, by decide +kernel, rfl, by decide +kernel, by decide +kernel⟩
abbrev netD (n : Nat) (arcs : List (Int × Int)) : PyData := .tuple [.int n, arcsD arcs]
def spTaken (K : PySem.W.Frag) : Sp := fun vs H Q _ => ∃ (nv lv : V) (n : Nat) (arcs : List (Int × Int)) (l : List Int), vs = [nv, lv] ∧ Tp K H nv (netD n arcs) ∧ arcs.length ≤ 1000 ∧ Tp K H lv (intsD l) ∧ l.length ≤ 1000 ∧
  (takeF arcs l.length l = none → ∀ H', Gr none H H' → Q .non H') ∧ (∀ st, takeF arcs l.length l = some st → ∀ a H', Gr none H H' → Tp K H' (.ref a) (stD st) → Q (.ref a) H')
theorem takeF_succ {arcs : List (Int × Int)} {m : Nat} {l : List Int} : takeF arcs (m + 1) l = match l.filter (freeB arcs l) with
    | [] => none
    | x :: _ => (takeF arcs m (l.filter fun i => decide (i ≠ x))).map (x :: ·) := rfl
theorem ready_filter (arcs : List (Int × Int)) (l : List Int) (i : Int) : decide (((arcs.filter fun p => decide (p.1 = i) && decide (p.2 ∈ l))).length = 0) = freeB arcs l i := by
  rw [← freeB_filter, Bool.eq_iff_iff, decide_eq_true_eq, decide_eq_true_eq, List.length_eq_zero_iff, List.filter_eq_nil_iff, List.filter_eq_nil_iff]
  unfold knowsI
  constructor
  · intro h j hj
    obtain ⟨p, hp, rfl⟩ := List.mem_map.mp hj
    obtain ⟨h1, h2⟩ := List.mem_filter.mp hp
    have := h p h1
    rw [h2, Bool.true_and] at this
    exact this
  · intro h p hp z
    rw [Bool.and_eq_true] at z
    exact h p.2 (List.mem_map.mpr ⟨p, List.mem_filter.mpr ⟨hp, z.1⟩, rfl⟩) z.2
theorem ok_taken {f : Addr} {fd : FuncData} {k : Nat} (F : Fun K "_law_taken" "_law_taken" sTaken f fd) (B : Bi mg) : FnOk P w K mg base CX0 (k + 1) f fd ["_law_net", "_law_lot"] (spTaken K) := by
  refine F.ok scTaken (fun vs H Q E h => ?_) (fun cdv A outer s H vs Q E hr h => ?_)
  · obtain ⟨nv, lv, n, arcs, l, rfl, _⟩ := h
    rfl
  · obtain ⟨nv, lv, n, arcs, l, rfl, hN, hal, hd, hlen, q0, q1⟩ := h
    refine ⟨_, pss_cons (ps_set (i := 2) scTaken.nd rfl (Or.inr rfl) (pe_callTy call_list_of (by rfl) B.list (by decide +kernel) (pa_cons (pv 1) pa_nil)))
      (pss_cons (ps_set (i := 3) scTaken.nd rfl (Or.inl rfl) (pe_lst pa_nil))
      (pss_cons (ps_for PassesOwn.never rfl (pi_range1 (by rfl) B.range (pa_cons (lenS B (pv 1)) pa_nil)) (pg_name (i := 4) scTaken.nd rfl (Or.inl rfl))
        (pss_cons (ps_set (i := 5) scTaken.nd rfl (Or.inr rfl) (pe_lc (own := [("_law_i", 6)]) (g := gName 6) rfl scTaken.nd (pi_list (pv 2))
            (bk (N := ["_law_net", "_law_lot", "_law_left", "_law_out", "_law_k", "_law_ready", "_law_i", "_law_arc"]) (defScope sTaken) (by decide +kernel)) (fun _ _ _ _ _ => pg_name (i := 6) scTaken.nd rfl (Or.inr rfl))
            (fun _ _ _ _ _ => pts_one (pt_cmpR op_eq (lenK (K := K) B (pe_lc (own := [("_law_arc", 7)]) (g := gName 7) rfl scTaken.nd (pi_tupK (K := K) (pe_ix (ix_tupK (K := K)) (pv 0) pe_int (fun _ _ => rfl)))
                (bk (N := ["_law_net", "_law_lot", "_law_left", "_law_out", "_law_k", "_law_ready", "_law_i", "_law_arc"]) { kind := .function, names := [(".0", .local), ("_law_i", .cell), ("len", .globalImplicit), ("_law_left", .cell), ("_law_net", .cell)], isGenerator := false, isCoroutine := false } (by decide +kernel)) (fun _ _ _ _ _ => pg_name (i := 7) scTaken.nd rfl (Or.inl rfl))
                (fun _ _ _ _ _ => pts_one (PW.pt (pw_and (pt_cmpR op_eq (pe_ix (ix_tupK (K := K)) (pv 7) pe_int (fun _ _ => rfl)) (pv 6) (nomark _)) (pw_and1 (pt_cmpR (op_inK (K := K)) (pe_ix (ix_tupK (K := K)) (pv 7) pe_int (fun _ _ => rfl)) (pv 2) (by rfl))))))
                (fun _ _ _ _ _ => pv 7))) pe_int (nomark _)))
            (fun _ _ _ _ _ => pv 6)))
        (pss_cons (ps_if (pt_cmpR op_eq (lenS B (pv 5)) pe_int (nomark _)) (pss_one (ps_ret pe_non)) pss_nil)
        (pss_cons (ps_expr (pe_bm PySem.F.plainAttrs_list PySem.F.slot_list_append PySem.F.type_list_append mt_append (pv 3) (pa_cons (pe_tup (pa_cons (pe_ix ix_list (pv 5) pe_int (fun _ _ => rfl)) (pa_cons pe_int pa_nil))) pa_nil)))
        (pss_one (ps_set (i := 2) scTaken.nd rfl (Or.inr rfl) (pe_lc (own := [("_law_i", 6)]) (g := gName 6) rfl scTaken.nd (pi_list (pv 2))
            (bk (N := ["_law_net", "_law_lot", "_law_left", "_law_out", "_law_k", "_law_ready", "_law_i", "_law_arc"]) (defScope sTaken) (by decide +kernel)) (fun _ _ _ _ _ => pg_name (i := 6) scTaken.nd rfl (Or.inl rfl))
            (fun _ _ _ _ _ => pts_one (pt_cmpR op_ne (pv 6) (pe_ix (ix_listK (K := K)) (pv 5) pe_int (fun _ _ => rfl)) (nomark _))) (fun _ _ _ _ _ => pv 6))))))))
      (pss_one (ps_ret (pe_callTy call_tuple_of (by rfl) B.tuple (by decide +kernel) (pa_cons (pv 3) pa_nil)))))), ?_⟩
    obtain ⟨nt, nxs, rfl, hns, hnx⟩ := hN.tuple
    obtain ⟨a, rfl, hs⟩ := hd.ints
    refine ⟨.ref a, rfl, a, _, rfl, .inr hs, fun D0 hD0 => ?_⟩
    have g0 := Gr.new (x := none) (o := .lst (l.map V.int)) hD0
    refine ⟨Nat.zero_le _, fun ls hls => ?_⟩
    have g1 := g0.trans (Gr.new (x := none) (o := .lst []) hls)
    have hls0 : H ls = none := g0.free0 hls
    have nD0 : D0 ≠ ls := fun e => by rw [e] at hls; rw [upd_same] at hls; cases hls
    refine ⟨.ref a, rfl, a, _, rfl, .inr (g1.sqT .none hs), l.length, ?_, by omega, by omega, ?_⟩
    · rw [List.length_map]
    refine for_it (walk_range (lo := 0) (n := l.length)) (fun i σ H3 => Gr none H H3 ∧ ∃ (L : Addr) (xs : List V) (m st : List Int) (y4 y5 y6 y7 : Option V), σ = [some (.ref nt), some (.ref a), some (.ref L), some (.ref ls), y4, y5, y6, y7] ∧ L ≠ ls ∧ H3 L = some (.lst (m.map V.int)) ∧ H3 ls = some (.lst xs) ∧
        TpAll K H3 xs (st.map fun i => rowD [i, 0]) ∧ st.length = i ∧ takeF arcs l.length l = (takeF arcs (l.length - i) m).map (st ++ ·) ∧ m.length ≤ l.length)
      ⟨g1, D0, [], l, [], _, _, _, _, rfl, nD0, (Gr.new (x := none) hls).lst upd_same, upd_same, .nil, rfl, ?_, Nat.le_refl _⟩ (fun i σ H3 _ hQ => trivial) (fun i x σ H0 H3 hi hQ y => ?_) fun σ H3 hQ => ?_
    · show takeF arcs l.length l = (takeF arcs l.length l).map fun s => s
      rw [Option.map_id']
    · obtain ⟨g, L, xs, m, st, y4, y5, y6, y7, rfl, nL, hL, hS, hxs, hsti, htm, hmle⟩ := hQ
      obtain ⟨rfl, _⟩ := y
      refine ⟨.ref L, rfl, L, rfl, ⟨_, SqL.of hL⟩, fun D hD => ?_⟩
      refine lcL (K := K) (as := m) (xs := m.map V.int) (by rw [List.length_map]) (by rw [List.length_map]; omega) hD (SqL.of hL) (freeB arcs m) (fun i => .int i) (fun i3 al x3 H4 Acc No h1 h2 g4 hac hno => ?_) (fun H4 ys g4 e4 t4 => ?_)
      · rw [List.getElem?_map, h1] at h2
        cases h2
        have hnx4 := hnx.gr0 (g.trans g4)
        obtain ⟨v1, hv1, tv1⟩ := hnx4.get' (i := 1) (d := arcsD arcs) rfl
        obtain ⟨aa, axs, rfl, has, hax⟩ := tv1.tuple
        have haxl := hax.length
        rw [List.length_map] at haxl
        refine ⟨rfl, .ref nt, rfl, nt, nxs, 1, .ref aa, rfl, rfl, (g.trans g4).sqT .none hns, atI_nat (j := 1) hv1, aa, rfl, ⟨_, has⟩, fun D2 hD2 => ?_⟩
        refine lcT (K := K) (as := arcs) (xs := axs) haxl.symm (by omega) hD2 has (fun p => decide (p.1 = al) && decide (p.2 ∈ m)) arcD (fun i5 p x5 H5 Acc2 No2 k1 k2 g5 hac2 hno2 => ?_) (fun H5 ys5 g5 e5 t5 => ?_)
        · obtain ⟨d, hd1, hd2⟩ := hax.get k2
          rw [List.getElem?_map, k1] at hd1
          cases hd1
          have hd3 := hd2.gr0 g5
          obtain ⟨b, rfl, hb⟩ := hd3.ints
          refine ⟨rfl, .ref b, rfl, b, _, 0, .int p.1, rfl, rfl, hb, atI_nat (j := 0) rfl, .int al, rfl, rfl, _, rfl, ite2 (fun zz => ?_) (fun zz => ?_)⟩
          · have z1 : p.1 = al := V.int.inj (of_decide_eq_true zz)
            refine ⟨.ref b, rfl, b, _, 1, .int p.2, rfl, rfl, hb, atI_nat (j := 1) rfl, .ref L, rfl, L, _, rfl, .inl (SqL.of (g5.lst (g4.lst hL))), rfl, flat_ints m, _, rfl, ?_⟩
            rw [show (if false = true then !inV (.int p.2) (m.map V.int) else inV (.int p.2) (m.map V.int)) = decide (p.2 ∈ m) from inV_ints _ _]
            refine ite2 (fun z2 => ⟨.ref b, rfl, hac2 ?_ _ _ Gr.refl hd3⟩) (fun z2 => hno2 ?_ _ Gr.refl)
            · rw [decide_eq_true z1, z2]; rfl
            · rw [Bool.not_eq_true] at z2
              rw [decide_eq_true z1, z2]; rfl
          · refine hno2 ?_ _ Gr.refl
            rw [decide_eq_false (fun e => zz (decide_eq_true (by rw [e])))]; rfl
        · have hl5 := t5.length
          rw [List.length_map] at hl5
          refine ⟨D2, ys5, rfl, .inl (SqL.of e5), rfl, _, rfl, ?_⟩
          have e6 : decide (V.int (ys5.length : Nat) = V.int 0) = freeB arcs m al := by
            rw [← ready_filter, ← hl5, Bool.eq_iff_iff, decide_eq_true_eq, decide_eq_true_eq]
            exact ⟨fun e => by have := V.int.inj e; omega, fun e => by rw [e]; rfl⟩
          rw [e6]
          refine ite2 (fun zz => ⟨.int al, rfl, hac zz _ _ g5 (.int _)⟩) (fun zz => hno (by rw [Bool.not_eq_true] at zz; exact zz) _ g5)
      · have e5 := tp_ints _ t4
        subst e5
        refine ⟨.ref D, rfl, D, _, rfl, .inl (SqL.of e4), rfl, _, rfl, ?_⟩
        obtain ⟨k2, hk2⟩ : ∃ k2, l.length - i = k2 + 1 := ⟨l.length - i - 1, by omega⟩
        rw [hk2] at htm
        rw [takeF_succ] at htm
        cases hf : m.filter (freeB arcs m) with
        | nil =>
          rw [hf] at htm
          exact iteT (q0 htm _ (g.trans g4))
        | cons x0 r =>
          rw [hf] at htm e4
          refine ite2 (fun zz => ?_) (fun zz => ?_)
          · have := V.int.inj (of_decide_eq_true zz)
            rw [List.length_map, List.length_cons] at this
            omega
          refine ⟨.ref ls, rfl, .inl ⟨rfl, _, SqL.of (g4.lst hS)⟩, .ref D, rfl, D, _, 0, .int x0, rfl, rfl, SqL.of e4, atI_nat (j := 0) rfl, by show 2 ≤ sizeLine; decide, fun t ht => ?_⟩
          have g5 : Gr none H4 (upd H4 t (.tup [.int x0, .int 0])) := Gr.new ht
          have tt : Tp K (upd H4 t (.tup [.int x0, .int 0])) (.ref t) (rowD [x0, 0]) := .tup (.inl (.inl upd_same)) (.cons (.int _) (.cons (.int _) .nil))
          have g6 := g4.trans g5
          have hS6 := g6.lst hS
          have hL6 := g6.lst hL
          have hD6 := g5.lst e4
          have hxs6 := hxs.gr0 g6
          have gH6 := g.trans g6
          have nDls : D ≠ ls := fun e => by rw [e, hS] at hD; cases hD
          generalize upd H4 t (.tup [.int x0, .int 0]) = H6 at *
          have hxl := hxs.length
          rw [List.length_map] at hxl
          refine ⟨ls, xs, _, rfl, rfl, hS6, Nat.lt_of_le_of_lt (show xs.length ≤ 1000 by omega) (by decide), ?_⟩
          have ga : Gr (some ls) H6 (upd H6 ls (.lst (xs ++ [.ref t]))) := Gr.at fun ps z => by rw [hS6] at z; cases z
          have hL7 : (upd H6 ls (.lst (xs ++ [.ref t]))) L = some (.lst (m.map V.int)) := by rw [upd_ne nL]; exact hL6
          have hD7 : (upd H6 ls (.lst (xs ++ [.ref t]))) D = some (.lst ((x0 :: r).map V.int)) := by rw [upd_ne nDls]; exact hD6
          have hS7 : (upd H6 ls (.lst (xs ++ [.ref t]))) ls = some (.lst (xs ++ [.ref t])) := upd_same
          have hxs7 := (hxs6.append (.cons tt .nil)).gr ga (.lst hS6)
          have gH7 : Gr none H (upd H6 ls (.lst (xs ++ [.ref t]))) := Gr.fresh gH6 hls0
          generalize upd H6 ls (.lst (xs ++ [.ref t])) = H7 at *
          refine ⟨.ref L, rfl, L, rfl, ⟨_, SqL.of hL7⟩, fun D3 hD3 => ?_⟩
          refine lcL (K := K) (as := m) (xs := m.map V.int) (by rw [List.length_map]) (by rw [List.length_map]; omega) hD3 (SqL.of hL7) (fun i => decide (i ≠ x0)) (fun i => .int i) (fun i3 al x3 H8 Acc No h1 h2 g8 hac hno => ?_) (fun H8 ys g8 e8 t8 => ?_)
          · rw [List.getElem?_map, h1] at h2
            cases h2
            refine ⟨rfl, .int al, rfl, .ref D, rfl, D, _, 0, .int x0, rfl, rfl, SqL.of (g8.lst hD7), atI_nat (j := 0) rfl, rfl, _, rfl, ite2 (fun zz => ?_) (fun zz => ?_)⟩
            · refine ⟨.int al, rfl, hac (decide_eq_true fun e => ?_) _ _ Gr.refl (.int _)⟩
              subst e
              simp at zz
            · refine hno (decide_eq_false fun e => ?_) _ Gr.refl
              apply zz
              simp [e]
          · have e9 := tp_ints _ t8
            subst e9
            have hS8 := g8.lst hS7
            refine ⟨gH7.trans g8, D3, xs ++ [.ref t], (m.filter fun i => decide (i ≠ x0)), st ++ [x0], _, _, _, _, rfl, fun e => ?_, e8, hS8, ?_, by rw [List.length_append, hsti]; rfl, ?_, Nat.le_trans (List.length_filter_le _ _) hmle⟩
            · rw [e, hS7] at hD3; cases hD3
            · rw [List.map_append]
              exact hxs7.gr0 g8
            · rw [htm, show l.length - (i + 1) = k2 by omega]
              show Option.map _ (Option.map _ _) = _
              rw [Option.map_map]
              congr 1
              funext z
              show st ++ x0 :: z = st ++ [x0] ++ z
              simp
    · obtain ⟨g, L, xs, m, st, y4, y5, y6, y7, rfl, nL, hL, hS, hxs, hsti, htm, hmle⟩ := hQ
      rw [Nat.sub_self] at htm
      have e : takeF arcs l.length l = some st := by
        rw [htm]
        show some (st ++ []) = _
        rw [List.append_nil]
      refine ⟨.ref ls, rfl, ls, xs, rfl, .inl ⟨SqL.of hS, fun z1 hz1 => ?_⟩⟩
      have gz1 := Gr.new (x := none) (o := .tup xs) hz1
      exact q1 st e _ _ (g.trans gz1) (.tup (.inl (.inl upd_same)) (hxs.gr0 gz1))
end
end Lk

namespace Lk
open PySem PySem.Spec PyProof.Rows L2 GxR RZ
section
variable {P : Program} {w : World} {K : PySem.W.Frag} {mg : Str → Option Value} {base : Heap}
/-! ### _law_draw -/
abbrev sDraw : Stmt := top 59
theorem scDraw : FnScope ["_law_pool_here", "_law_many"] ["_law_pool_here", "_law_many"] (defScope sDraw) := ⟨rfl, rfl, rfl, by decide +kernel, rfl, by decide +kernel, by decide +kernel⟩
def spDraw : Sp := fun vs H Q _ => ∃ (a : Addr) (m : Int) (ns : List Int), vs = [.ref a, .int m] ∧ 0 < m ∧ H a = some (.lst (ns.map V.int)) ∧ ∀ (d : Int) (ns' : List Int) H', 0 ≤ d → d < m → Gr (some a) H H' → H' a = some (.lst (ns'.map V.int)) → Q (.int d) H'
theorem ok_draw {f : Addr} {fd : FuncData} {k : Nat} (F : Fun K "_law_draw" "_law_draw" sDraw f fd) (B : Bi mg) : FnOk P w K mg base CX0 (k + 1) f fd ["_law_pool_here", "_law_many"] spDraw := by
  refine F.ok scDraw (fun vs H Q E h => ?_) (fun cdv A outer s H vs Q E hr h => ?_)
  · obtain ⟨a, m, ns, rfl, _⟩ := h
    rfl
  · obtain ⟨a, m, ns, rfl, hm, hL, q⟩ := h
    refine ⟨_, pss_cons (ps_if (pt_cmpR op_eq (lenS B (pv 0)) pe_int (nomark _)) (pss_one (ps_ret pe_int)) pss_nil)
      (pss_one (ps_ret (pe_op op_modN (pe_callTy call_int1 (by rfl) B.int (by decide +kernel) (pa_cons (pe_bm0 PySem.F.plainAttrs_list PySem.F.slot_list_pop PySem.F.type_list_pop mt_pop (pv 0)) pa_nil)) (pv 1)))), ?_⟩
    refine ⟨.ref a, rfl, a, _, rfl, .inl (SqL.of hL), rfl, _, rfl, ite2 (fun z => ?_) (fun z => ?_)⟩
    · exact q 0 ns H (Int.le_refl _) hm Gr.refl hL
    · have hne : ns ≠ [] := fun e => z (by subst e; rfl)
      have hl : 0 < ns.length := List.length_pos_iff.mpr hne
      refine ⟨.ref a, rfl, .inl ⟨rfl, _, SqL.of hL⟩, a, _, .int (ns[ns.length - 1]'(by omega)), rfl, rfl, hL, ?_, ?_⟩
      · rw [List.length_map, List.getElem?_map, List.getElem?_eq_getElem (by omega)]; rfl
      · refine .inl ⟨_, rfl, .int m, rfl, _, m, rfl, rfl, by omega, ?_⟩
        refine q _ ns.dropLast _ ?_ ?_ (Gr.at fun ps z => by rw [hL] at z; cases z) ?_
        · exact Int.fmod_nonneg_of_pos _ hm
        · exact Int.fmod_lt_of_pos _ hm
        · rw [upd_same, List.map_dropLast]
/-! ### _law_pool -/
abbrev sPool : Stmt := top 58
theorem scPool : FnScope ["_law_script", "_law_many", "_law_pool_here", "_law_total", "_law_cell", "_law_rest", "_law_k", "_law_first", "_law_second"] ["_law_script", "_law_many"] (defScope sPool) := ⟨rfl, rfl, rfl, by decide +kernel, rfl, by decide +kernel, by decide +kernel⟩
def spPool (K : PySem.W.Frag) : Sp := fun vs H Q _ => ∃ (a : Addr) (ns : List Int), vs = [.ref a, .int 400] ∧ SqL K H a (ns.map V.int) ∧ ns.length ≤ 63 ∧ ∀ H' p (ns' : List Int), Gr none H H' → H p = none → H' p = some (.lst (ns'.map V.int)) → Q (.ref p) H'
theorem cut_ints (ns : List Int) (lo hi : Option Int) : ∃ ns' : List Int, cutV (ns.map V.int) lo hi = ns'.map V.int := by
  unfold cutV
  exact ⟨_, by rw [← List.map_drop, ← List.map_take]⟩
theorem ok_pool {f : Addr} {fd : FuncData} {k : Nat} (F : Fun K "_law_pool" "_law_pool" sPool f fd) (B : Bi mg) : FnOk P w K mg base CX0 (k + 1) f fd ["_law_script", "_law_many"] (spPool K) := by
  refine F.ok scPool (fun vs H Q E h => ?_) (fun cdv A outer s H vs Q E hr h => ?_)
  · obtain ⟨a, ns, rfl, _⟩ := h
    rfl
  · obtain ⟨a, ns, rfl, hS, hlen, q⟩ := h
    refine ⟨_, pss_cons (ps_set (i := 2) scPool.nd rfl (Or.inl rfl) (pe_lst pa_nil))
      (pss_cons (ps_set (i := 3) scPool.nd rfl (Or.inl rfl) pe_int)
      (pss_cons (ps_for PassesOwn.never rfl (pi_list (pv 0)) (pg_name (i := 4) scPool.nd rfl (Or.inl rfl))
        (pss_cons (ps_set (i := 5) scPool.nd rfl (Or.inl rfl) (pe_callTy call_int1 (by rfl) B.int (by decide +kernel) (pa_cons (pe_callB call_abs (by rfl) B.abs (by decide +kernel) (pa_cons (pv 4) pa_nil)) pa_nil)))
        (pss_cons (ps_if (pt_cmpR op_ge (pv 5) (pe_op op_pow pe_int pe_int) (nomark _))
          (pss_one (ps_for PassesOwn.never rfl (pi_range1 (by rfl) B.range (pa_cons (pe_callB (call_min2 rfl) (by rfl) B.min (by decide +kernel) (pa_cons pe_int (pa_cons (pe_op op_sub (pv 1) (lenS B (pv 2))) pa_nil))) pa_nil)) (pg_name (i := 6) scPool.nd rfl (Or.inl rfl))
            (pss_cons (ps_expr (pe_bm PySem.F.plainAttrs_list PySem.F.slot_list_append PySem.F.type_list_append mt_append (pv 2) (pa_cons (pe_op op_mod (pe_callTy call_int1 (by rfl) B.int (by decide +kernel) (pa_cons (pv 5) pa_nil)) pe_int) pa_nil)))
            (pss_cons (ps_set (i := 5) scPool.nd rfl (Or.inl rfl) (pe_op op_fdiv (pv 5) pe_int))
            (pss_one (ps_if (pt_cmpR op_eq (pv 5) pe_int (nomark _)) (pss_one ps_break) pss_nil))))))
          (pss_cons (ps_set (i := 7) scPool.nd rfl (Or.inl rfl) (pe_op op_mod (pe_callTy call_int1 (by rfl) B.int (by decide +kernel) (pa_cons (pe_op op_add (pe_op op_add (pe_op op_mul (pv 4) pe_int) (pe_op op_mul (lenS B (pv 2)) pe_int)) pe_int) pa_nil)) pe_int))
          (pss_cons (ps_set (i := 8) scPool.nd rfl (Or.inl rfl) (pe_op op_mod (pe_callTy call_int1 (by rfl) B.int (by decide +kernel) (pa_cons (pe_op op_add (pe_op op_mul (pv 7) (pv 7)) pe_int) pa_nil)) pe_int))
          (pss_cons (ps_expr (pe_bm PySem.F.plainAttrs_list PySem.F.slot_list_append PySem.F.type_list_append mt_append (pv 2) (pa_cons (pe_op op_mod (pe_callTy call_int1 (by rfl) B.int (by decide +kernel) (pa_cons (pe_op op_fdiv (pv 8) pe_int) pa_nil)) pe_int) pa_nil)))
          (pss_one (ps_expr (pe_bm PySem.F.plainAttrs_list PySem.F.slot_list_append PySem.F.type_list_append mt_append (pv 2) (pa_cons (pe_op op_mod (pe_op op_mod (pe_callTy call_int1 (by rfl) B.int (by decide +kernel) (pa_cons (pe_op op_add (pe_op op_mul (pv 8) pe_int) (pv 7)) pa_nil)) pe_int) pe_int) pa_nil))))))))
        (pss_one (ps_set (i := 3) scPool.nd rfl (Or.inl rfl) (pe_op op_mod (pe_callTy call_int1 (by rfl) B.int (by decide +kernel) (pa_cons (pe_op op_add (pe_op op_mul (pv 3) pe_int) (pv 4)) pa_nil)) pe_int))))))
      (pss_cons (ps_for PassesOwn.never rfl (pi_range1 (by rfl) B.range (pa_cons (pv 1) pa_nil)) (pg_name (i := 6) scPool.nd rfl (Or.inl rfl))
        (pss_cons (ps_set (i := 3) scPool.nd rfl (Or.inl rfl) (pe_op op_mod (pe_callTy call_int1 (by rfl) B.int (by decide +kernel) (pa_cons (pe_op op_add (pe_op op_add (pe_op op_mul (pv 3) pe_int) (pe_op op_mul (pv 6) pe_int)) pe_int) pa_nil)) pe_int))
        (pss_one (ps_expr (pe_bm PySem.F.plainAttrs_list PySem.F.slot_list_append PySem.F.type_list_append mt_append (pv 2) (pa_cons (pe_op op_mod (pe_callTy call_int1 (by rfl) B.int (by decide +kernel) (pa_cons (pe_op op_fdiv (pv 3) pe_int) pa_nil)) pe_int) pa_nil))))))
      (pss_cons (ps_set (i := 2) scPool.nd rfl (Or.inl rfl) (pe_slice sl_list (pv 2) po_none (po_some (pv 1))))
      (pss_cons (ps_expr (pe_bm0 PySem.F.plainAttrs_list PySem.F.slot_list_reverse PySem.F.type_list_reverse mt_reverse (pv 2)))
      (pss_one (ps_ret (pv 2)))))))), ?_⟩
    have nle : ∀ {k : Nat}, k ≤ 100000 → k < sizeLine := fun h => Nat.lt_of_le_of_lt h (by decide)
    have ap : ∀ {H2 : Hp} {p : Addr} (ps : List Int) (x : Int), (upd H2 p (.lst (ps.map V.int ++ [.int x]))) p = some (.lst ((ps ++ [x]).map V.int)) := fun ps x => by rw [upd_same, List.map_append]; rfl
    refine ⟨Nat.zero_le _, fun L hL0 => ?_⟩
    have gu : ∀ {H2 : Hp} {o : HO}, Gr none H H2 → Gr none H (upd H2 L o) := fun g => Gr.fresh g hL0
    refine ⟨.ref a, rfl, a, rfl, ⟨_, (Gr.new hL0).sqL hS⟩, ?_⟩
    refine for_it (walk_list (K := K) (a := a) (xs := ns.map V.int)) (fun i σ H2 => Gr none H H2 ∧ ∃ (ps : List Int) (total : Int) (y4 y5 y6 y7 y8 : Option V), σ = [some (.ref a), some (.int 400), some (.ref L), some (.int total), y4, y5, y6, y7, y8] ∧ H2 L = some (.lst (ps.map V.int)) ∧ ps.length ≤ 60 * i ∧ 0 ≤ total ∧ total < 2147483647)
      ⟨Gr.new hL0, [], 1, none, none, none, none, none, rfl, upd_same, Nat.zero_le _, by decide, by decide⟩ (fun i σ H2 _ h => h.1.sqL hS) (fun i xv σ H0 H2 hi hP y => ?_) fun σ H2 hP => ?_
    · obtain ⟨g, ps, total, y4, y5, y6, y7, y8, rfl, hL, hps, ht0, ht1⟩ := hP
      obtain ⟨rfl, ex⟩ := y
      rw [List.length_map] at hi
      rw [List.getElem?_map, List.getElem?_eq_getElem hi] at ex
      cases ex
      generalize ns[i] = c at *
      refine ⟨.int c, rfl, c, rfl, .inl ⟨_, rfl, ?_⟩⟩
      refine ⟨_, rfl, 10, 18, rfl, rfl, ⟨by decide, by decide, by decide⟩, _, _, rfl, rfl, _, rfl, ?_⟩
      have e18 : (10 : Int) ^ Int.toNat 18 = 1000000000000000000 := by decide +kernel
      refine ite2 (fun zz => ?_) (fun zz => ?_)
      · -- a great number
        refine ⟨.int 400, rfl, .ref L, rfl, L, _, rfl, .inl (SqL.of hL), 400, _, rfl, rfl, 60, _, rfl, _, rfl, ?_, ?_, ?_⟩
        · have hlm : (ps.map V.int).length = ps.length := List.length_map _
          split <;> omega
        · split <;> omega
        have hn60 : Int.toNat (if (400 : Int) - ((ps.map V.int).length : Nat) < 60 then (400 : Int) - ((ps.map V.int).length : Nat) else 60) ≤ 60 := by
          split <;> omega
        refine for_it (walk_range (lo := 0) (n := Int.toNat (if (400 : Int) - ((ps.map V.int).length : Nat) < 60 then (400 : Int) - ((ps.map V.int).length : Nat) else 60))) (fun j σ H3 => Gr none H H3 ∧ ∃ (ps2 : List Int) (rest : Int) (y6 : Option V), σ = [some (.ref a), some (.int 400), some (.ref L), some (.int total), some (.int c), some (.int rest), y6, y7, y8] ∧ H3 L = some (.lst (ps2.map V.int)) ∧ ps2.length ≤ 60 * i + j)
          ⟨g, ps, _, _, rfl, hL, hps⟩ (fun j σ H3 _ _ => trivial) (fun j xv σ H0 H3 hj hP y => ?_) fun σ H3 hP => ?_
        · obtain ⟨g3, ps2, rest, y6, rfl, hL3, hps2⟩ := hP
          obtain ⟨rfl, rfl⟩ := y
          refine ⟨.ref L, rfl, .inl ⟨rfl, _, SqL.of hL3⟩, .int rest, rfl, .inl ⟨_, rfl, _, 2520, rfl, rfl, (by show (0 : Int) < 2520; decide), ?_⟩⟩
          refine ⟨L, _, _, rfl, rfl, hL3, nle (by rw [List.length_map]; omega), ?_⟩
          refine ⟨.int rest, rfl, _, 2520, rfl, rfl, ⟨by decide, by decide⟩, ?_⟩
          refine ⟨_, rfl, rfl, _, rfl, ite2 (fun z2 => ?_) (fun z2 => ?_)⟩
          · refine ⟨.int total, rfl, total, 263, rfl, rfl, .inl ⟨by omega, by omega⟩, .int c, rfl, _, _, rfl, rfl, .inl ⟨_, rfl, _, 1000003, rfl, rfl, (by show (0 : Int) < 1000003; decide), ?_⟩⟩
            have hb1 := Int.emod_nonneg (total * 263 + c) (show (1000003 : Int) ≠ 0 by decide)
            have hb2 := Int.emod_lt_of_pos (total * 263 + c) (show (0 : Int) < 1000003 by decide)
            exact ⟨gu g3, ps2 ++ [rest % 2520], _, _, _, _, _, _, rfl, ap ps2 _, by rw [List.length_append]; show _ + 1 ≤ _; omega, hb1, by omega⟩
          · exact ⟨gu g3, ps2 ++ [rest % 2520], _, _, rfl, ap ps2 _, by rw [List.length_append]; show _ + 1 ≤ _; omega⟩
        · obtain ⟨g3, ps2, rest, y6, rfl, hL3, hps2⟩ := hP
          refine ⟨.int total, rfl, total, 263, rfl, rfl, .inl ⟨by omega, by omega⟩, .int c, rfl, _, _, rfl, rfl, .inl ⟨_, rfl, _, 1000003, rfl, rfl, (by show (0 : Int) < 1000003; decide), ?_⟩⟩
          have hb1 := Int.emod_nonneg (total * 263 + c) (show (1000003 : Int) ≠ 0 by decide)
          have hb2 := Int.emod_lt_of_pos (total * 263 + c) (show (0 : Int) < 1000003 by decide)
          exact ⟨g3, ps2, _, _, _, _, _, _, rfl, hL3, by omega, hb1, by omega⟩
      · -- another
        have hc : -1000000000000000000 < c ∧ c < 1000000000000000000 := by
          have z2 : ¬ (1000000000000000000 : Int) ≤ (if c < 0 then -c else c) := fun y => zz (by
            rw [decide_eq_true_eq]
            exact Int.le_trans (Int.le_of_eq e18) y)
          split at z2 <;> omega
        have hpl : ps.length ≤ 10000 := by omega
        refine ⟨.int c, rfl, c, 48271, rfl, rfl, .inl ⟨by omega, by omega⟩, .ref L, rfl, L, _, rfl, .inl (SqL.of hL), _, 69621, rfl, rfl, .inl ⟨by omega, by rw [List.length_map]; omega⟩, _, _, rfl, rfl, _, 11, rfl, rfl, .inl ⟨_, rfl, _, 2147483647, rfl, rfl, (by show (0 : Int) < 2147483647; decide), ?_⟩⟩
        have f1 := Int.emod_nonneg (c * 48271 + ((ps.map V.int).length : Nat) * 69621 + 11) (show (2147483647 : Int) ≠ 0 by decide)
        have f2 := Int.emod_lt_of_pos (c * 48271 + ((ps.map V.int).length : Nat) * 69621 + 11) (show (0 : Int) < 2147483647 by decide)
        obtain ⟨fi, efi⟩ : ∃ x, (c * 48271 + ((ps.map V.int).length : Nat) * 69621 + 11) % 2147483647 = x := ⟨_, rfl⟩
        rw [efi] at f1 f2
        refine ⟨.int fi, (by rw [← efi]; rfl), .int fi, (by rw [← efi]; rfl), fi, fi, rfl, rfl, .inl ⟨by omega, by omega⟩, _, 5, rfl, rfl, .inl ⟨_, rfl, _, 2147483629, rfl, rfl, (by show (0 : Int) < 2147483629; decide), ?_⟩⟩
        have s1 := Int.emod_nonneg (fi * fi + 5) (show (2147483629 : Int) ≠ 0 by decide)
        have s2 := Int.emod_lt_of_pos (fi * fi + 5) (show (0 : Int) < 2147483629 by decide)
        obtain ⟨se, ese⟩ : ∃ x, (fi * fi + 5) % 2147483629 = x := ⟨_, rfl⟩
        rw [ese] at s1 s2
        refine ⟨.ref L, rfl, .inl ⟨rfl, _, SqL.of hL⟩, .int se, (by rw [← ese]; rfl), se, 7, rfl, rfl, ⟨by decide, by decide⟩, .inl ⟨_, rfl, _, 2520, rfl, rfl, (by show (0 : Int) < 2520; decide), ?_⟩⟩
        refine ⟨L, _, _, rfl, rfl, hL, nle (by rw [List.length_map]; omega), ?_⟩
        have hL3 := ap (H2 := H2) (p := L) ps (se / 7 % 2520)
        have g3 : Gr none H (upd H2 L (.lst (ps.map V.int ++ [.int (se / 7 % 2520)]))) := gu g
        generalize upd H2 L (.lst (ps.map V.int ++ [.int (se / 7 % 2520)])) = H3 at *
        refine ⟨.ref L, rfl, .inl ⟨rfl, _, SqL.of hL3⟩, .int se, (by rw [← ese]; rfl), se, 16807, rfl, rfl, .inl ⟨by omega, by omega⟩, .int fi, (by rw [← efi]; rfl), _, _, rfl, rfl, .inl ⟨_, rfl, _, 2147483587, rfl, rfl, (by show (0 : Int) < 2147483587; decide), _, 2520, rfl, rfl, (by show (0 : Int) < 2520; decide), ?_⟩⟩
        refine ⟨L, _, _, rfl, rfl, hL3, nle (by rw [List.length_map, List.length_append]; show _ + 1 ≤ _; omega), ?_⟩
        refine ⟨.int total, rfl, total, 263, rfl, rfl, .inl ⟨by omega, by omega⟩, .int c, rfl, _, _, rfl, rfl, .inl ⟨_, rfl, _, 1000003, rfl, rfl, (by show (0 : Int) < 1000003; decide), ?_⟩⟩
        have hb1 := Int.emod_nonneg (total * 263 + c) (show (1000003 : Int) ≠ 0 by decide)
        have hb2 := Int.emod_lt_of_pos (total * 263 + c) (show (0 : Int) < 1000003 by decide)
        exact ⟨gu g3, ps ++ [se / 7 % 2520] ++ [(se * 16807 + fi) % 2147483587 % 2520], _, _, _, _, _, _, rfl, ap _ _, by rw [List.length_append, List.length_append]; show _ + 1 + 1 ≤ _; omega, hb1, by omega⟩
    · obtain ⟨g, ps, total, y4, y5, y6, y7, y8, rfl, hL, hps, ht0, ht1⟩ := hP
      rw [List.length_map] at hps
      refine ⟨.int 400, rfl, 400, rfl, by decide, by decide, ?_⟩
      refine for_it (walk_range (lo := 0) (n := 400)) (fun j σ H3 => Gr none H H3 ∧ ∃ (ps2 : List Int) (total : Int) (y6 : Option V), σ = [some (.ref a), some (.int 400), some (.ref L), some (.int total), y4, y5, y6, y7, y8] ∧ H3 L = some (.lst (ps2.map V.int)) ∧ ps2.length ≤ 60 * ns.length + j ∧ 0 ≤ total ∧ total < 2147483647)
          ⟨g, ps, _, _, rfl, hL, hps, ht0, ht1⟩ (fun j σ H3 _ _ => trivial) (fun j xv σ H0 H3 hj hP y => ?_) fun σ H3 hP => ?_
      · obtain ⟨g3, ps2, tot, y6, rfl, hL3, hps2, h0, h1⟩ := hP
        obtain ⟨rfl, rfl⟩ := y
        refine ⟨.int tot, rfl, tot, 48271, rfl, rfl, .inl ⟨by omega, by omega⟩, .int (0 + j), rfl, _, 69621, rfl, rfl, .inl ⟨by omega, by omega⟩, _, _, rfl, rfl, _, 17, rfl, rfl, .inl ⟨_, rfl, _, 2147483647, rfl, rfl, (by show (0 : Int) < 2147483647; decide), ?_⟩⟩
        have s1 := Int.emod_nonneg (tot * 48271 + (0 + (j : Int)) * 69621 + 17) (show (2147483647 : Int) ≠ 0 by decide)
        have s2 := Int.emod_lt_of_pos (tot * 48271 + (0 + (j : Int)) * 69621 + 17) (show (0 : Int) < 2147483647 by decide)
        obtain ⟨se, ese⟩ : ∃ x, (tot * 48271 + (0 + (j : Int)) * 69621 + 17) % 2147483647 = x := ⟨_, rfl⟩
        rw [ese] at s1 s2
        refine ⟨.ref L, rfl, .inl ⟨rfl, _, SqL.of hL3⟩, .int se, (by rw [← ese]; rfl), se, 5, rfl, rfl, ⟨by decide, by decide⟩, .inl ⟨_, rfl, _, 2520, rfl, rfl, (by show (0 : Int) < 2520; decide), ?_⟩⟩
        refine ⟨L, _, _, rfl, rfl, hL3, nle (by rw [List.length_map]; omega), ?_⟩
        exact ⟨gu g3, ps2 ++ [se / 5 % 2520], se, _, (by rw [← ese]; rfl), ap ps2 _, by rw [List.length_append]; show _ + 1 ≤ _; omega, s1, s2⟩
      · obtain ⟨g3, ps2, tot, y6, rfl, hL3, hps2, h0, h1⟩ := hP
        refine ⟨.ref L, rfl, .int 400, rfl, 400, rfl, L, _, rfl, SqL.of hL3, fun p hp => ?_⟩
        obtain ⟨ns', ens⟩ := cut_ints ps2 none (some 400)
        rw [ens]
        have g4 : Gr none H (upd H3 p (.lst (ns'.map V.int))) := g3.trans (Gr.new hp)
        refine ⟨.ref p, rfl, .inl ⟨rfl, _, SqL.of upd_same⟩, p, _, rfl, rfl, upd_same, .ref p, rfl, ?_⟩
        have hp0 : H p = none := g3.free0 hp
        refine q _ p ns'.reverse (Gr.fresh g4 hp0) hp0 ?_
        rw [upd_same, List.map_reverse]
end
end Lk

namespace Lk
open PySem PySem.Spec PyProof.Rows L2 GxR RZ
theorem Gr.freshx {x : Option Addr} {H H' : Hp} {p : Addr} {o : HO} (g : Gr x H H') (hp : H p = none) : Gr x H (upd H' p o) :=
  ⟨fun b o' hb h n => by rw [upd_ne (ne_of_none h hp)]; exact g.keep b o' hb h n, fun b ps h => by
    obtain ⟨ps', e, t⟩ := g.tab b ps h
    exact ⟨ps', by rw [upd_ne (ne_of_none h hp)]; exact e, t⟩⟩
def OkP (n : Nat) (p : Int × Int) : Prop := 0 ≤ p.1 ∧ p.1 < n ∧ 0 ≤ p.2 ∧ p.2 < n ∧ p.1 ≠ p.2
def Keys (n : Nat) (kvs : List (List L2.Key × V)) : Prop := ∀ kv ∈ kvs, ∃ p, kv.1 = R3.pk p ∧ OkP n p
theorem Keys.put {n : Nat} {kvs : List (List L2.Key × V)} {p : Int × Int} {v : V} (h : Keys n kvs) (hp : OkP n p) : Keys n (putK kvs (R3.pk p) v) := by
  intro kv hk
  unfold putK at hk
  split at hk
  · obtain ⟨kv', h1, h2⟩ := List.mem_map.mp hk
    split at h2
    · rw [← h2]; exact h kv' h1
    · rw [← h2]; exact h kv' h1
  · rcases List.mem_append.mp hk with e | e
    · exact h kv e
    · rw [List.mem_singleton.mp e]; exact ⟨p, rfl, hp⟩
theorem Keys.drop {n : Nat} {kvs : List (List L2.Key × V)} {k : List L2.Key} (h : Keys n kvs) : Keys n (dropK kvs k) := fun kv hk => h kv (List.mem_filter.mp hk).1
theorem Keys.list {n : Nat} : ∀ {kvs : List (List L2.Key × V)}, Keys n kvs → ∃ ps : List (Int × Int), kvs.map (·.1) = ps.map R3.pk ∧ ∀ p ∈ ps, OkP n p
  | [], _ => ⟨[], rfl, fun p h => absurd h (by simp)⟩
  | kv :: r, h => by
    obtain ⟨p, e, hp⟩ := h kv (by simp)
    obtain ⟨ps, e2, h2⟩ := Keys.list (kvs := r) fun kv hk => h kv (by simp [hk])
    refine ⟨p :: ps, by rw [List.map_cons, List.map_cons, e, e2], fun q hq => ?_⟩
    rcases List.mem_cons.mp hq with z | z
    · rw [z]; exact hp
    · exact h2 q z
theorem tp_arcs {K : PySem.W.Frag} {H : Hp} : ∀ {ys : List V} {qs : List (Int × Int)}, Paired (R3.IsP H) ys qs → TpAll K H ys (qs.map arcD)
  | _, _, .nil => .nil
  | _, _, .cons ⟨t, e, ht⟩ r => by
    subst e
    exact .cons (.tup (.inl (.inl ht)) (.cons (.int _) (.cons (.int _) .nil))) (tp_arcs r)
theorem sorted_arcs {n : Nat} {ps qs : List (Int × Int)} (hnd : ps.Nodup) (hp : qs.Perm ps) (hs : qs.Pairwise fun p q => SrtO.lexB q p = false) (hok : ∀ p ∈ ps, OkP n p) (hl : ps.length ≤ 1000) : ArcsOk n qs := by
  refine ⟨fun p h => hok p (hp.mem_iff.mp h), ?_, by rw [hp.length_eq]; exact hl⟩
  have nd : qs.Nodup := hp.nodup_iff.mpr hnd
  refine (hs.and nd).imp fun {p q} h => ?_
  obtain ⟨h1, h2⟩ := h
  have h3 : ¬ (q.1 < p.1 ∨ (q.1 = p.1 ∧ q.2 < p.2)) := fun z => by
    rw [SrtO.lexB_iff.mpr z] at h1
    cases h1
  rw [SrtO.lexB_iff]
  by_cases e : p.1 = q.1
  · right
    refine ⟨e, ?_⟩
    have : p.2 ≠ q.2 := fun e2 => h2 (Prod.ext e e2)
    omega
  · left
    omega
section
variable {P : Program} {w : World} {K : PySem.W.Frag} {mg : Str → Option Value} {base : Heap}
abbrev sArcs : Stmt := top 63
theorem scArcs : FnScope ["_law_pool_here", "_law_most", "_law_odds", "_law_size", "_law_there", "_law_turn", "_law_step", "_law_k", "_law_one", "_law_two", "_law_many", "_law_i", "_law_j"] ["_law_pool_here", "_law_most", "_law_odds"] (defScope sArcs) := ⟨rfl, rfl, rfl, by decide +kernel, rfl, by decide +kernel, by decide +kernel⟩
def spArcs (K : PySem.W.Frag) : Sp := fun vs H Q _ => ∃ (a : Addr) (ns : List Int), vs = [.ref a, .int 9, .int 2] ∧ H a = some (.lst (ns.map V.int)) ∧
  ∀ v H' (n : Nat) arcs (ns' : List Int), Gr (some a) H H' → H' a = some (.lst (ns'.map V.int)) → 1 ≤ n → n ≤ 9 → ArcsOk n arcs → Tp K H' v (netD n arcs) → Q v H'
/-- the dict of arcs -/
def DI (n b : Nat) (H : Hp) (d : Addr) : Prop := ∃ kvs, H d = some (.dT kvs) ∧ Keys n kvs ∧ kvs.length ≤ b
/-- between two statements of _law_arcs -/
structure AS (H : Hp) (a d : Addr) (n b : Nat) (H2 : Hp) : Prop where
  gr : Gr (some a) H H2
  po : ∃ ns' : List Int, H2 a = some (.lst (ns'.map V.int))
  di : DI n b H2 d
  ne : d ≠ a
  fr : H d = none
theorem AS.draw {H H2 H3 : Hp} {a d : Addr} {n b : Nat} {ns' : List Int} (s : AS H a d n b H2) (g : Gr (some a) H2 H3) (e : H3 a = some (.lst (ns'.map V.int))) : AS H a d n b H3 := by
  obtain ⟨kvs, h1, h2, h3⟩ := s.di
  exact ⟨s.gr.trans g, ⟨ns', e⟩, ⟨kvs, g.keep d _ (fun z => s.ne (Option.some.inj z)) h1 (fun _ z => nomatch z), h2, h3⟩, s.ne, s.fr⟩
theorem AS.mono {H H2 : Hp} {a d : Addr} {n b b' : Nat} (s : AS H a d n b H2) (h : b ≤ b') : AS H a d n b' H2 := by
  obtain ⟨kvs, h1, h2, h3⟩ := s.di
  exact ⟨s.gr, s.po, ⟨kvs, h1, h2, Nat.le_trans h3 h⟩, s.ne, s.fr⟩
theorem AS.new {H H2 : Hp} {a d t : Addr} {n b : Nat} {o : HO} (s : AS H a d n b H2) (ht : H2 t = none) : AS H a d n b (upd H2 t o) := by
  obtain ⟨ns', e⟩ := s.po
  obtain ⟨kvs, h1, h2, h3⟩ := s.di
  have g : Gr none H2 (upd H2 t o) := Gr.new ht
  exact ⟨s.gr.trans g.any, ⟨ns', g.lst e⟩, ⟨kvs, g.keep d _ (by simp) h1 (fun _ z => nomatch z), h2, h3⟩, s.ne, s.fr⟩
theorem AS.set {H H2 : Hp} {a d : Addr} {n b b' : Nat} {kvs : List (List L2.Key × V)} (s : AS H a d n b H2) (hk : Keys n kvs) (hb : kvs.length ≤ b') : AS H a d n b' (upd H2 d (.dT kvs)) := by
  obtain ⟨ns', e⟩ := s.po
  exact ⟨s.gr.freshx s.fr, ⟨ns', by rw [upd_ne s.ne.symm]; exact e⟩, ⟨kvs, upd_same, hk, hb⟩, s.ne, s.fr⟩
theorem AS.put {H H2 : Hp} {a d t : Addr} {n b : Nat} {p : Int × Int} (s : AS H a d n b H2) (ht : H2 t = none) (hp : OkP n p) (hb : b ≤ 1000) : ∃ H4, DPut (upd H2 t (.tup [.int p.1, .int p.2])) d (.ref t) (.bl true) H4 ∧ AS H a d n (b + 1) H4 := by
  have s2 := s.new (o := .tup [.int p.1, .int p.2]) ht
  obtain ⟨kvs, h1, h2, h3⟩ := s2.di
  refine ⟨_, DPut.t (k := R3.pk p) h1 upd_same (Nat.lt_of_le_of_lt (show kvs.length ≤ 1000 by omega) (by decide)), s2.set (h2.put hp) ?_⟩
  have := length_putK kvs (R3.pk p) (.bl true)
  omega
theorem ok_arcs {f : Addr} {fd : FuncData} {k : Nat} (F : Fun K "_law_arcs" "_law_arcs" sArcs f fd) (B : Bi mg) (L : Cal P w K mg base CX0 1 "_law_draw" ["_law_pool_here", "_law_many"] spDraw) : FnOk P w K mg base CX0 (k + 2) f fd ["_law_pool_here", "_law_most", "_law_odds"] (spArcs K) := by
  obtain ⟨fD, fdD, okD, gD, kD, bD⟩ := L.ex
  refine F.ok scArcs (fun vs H Q E h => ?_) (fun cdv A outer s H vs Q E hr h => ?_)
  · obtain ⟨a, ns, rfl, _⟩ := h
    rfl
  · obtain ⟨a, ns, rfl, hL, q⟩ := h
    have hu := hu_of hr
    refine ⟨_, pss_cons (ps_set (i := 3) scArcs.nd rfl (Or.inl rfl) (pe_op op_add pe_int (pe_call okD (hr.mono (by omega)) (by rfl) gD kD bD .nil pass0 (pa_cons (pv 0) (pa_cons (pv 1) pa_nil)))))
      (pss_cons (ps_set (i := 4) scArcs.nd rfl (Or.inl rfl) pe_dnewT)
      (pss_cons (ps_if (pt_cmpR op_lt (pe_call okD (hr.mono (by omega)) (by rfl) gD kD bD .nil pass0 (pa_cons (pv 0) (pa_cons pe_int pa_nil))) (pv 2) (nomark _))
        (pss_cons (ps_set (i := 3) scArcs.nd rfl (Or.inl rfl) pe_int)
        (pss_cons (ps_set (i := 5) scArcs.nd rfl (Or.inl rfl) (pe_call okD (hr.mono (by omega)) (by rfl) gD kD bD .nil pass0 (pa_cons (pv 0) (pa_cons pe_int pa_nil))))
        (pss_cons (ps_set (i := 6) scArcs.nd rfl (Or.inl rfl) (pe_op op_add pe_int (pe_call okD (hr.mono (by omega)) (by rfl) gD kD bD .nil pass0 (pa_cons (pv 0) (pa_cons pe_int pa_nil)))))
        (pss_cons (ps_for PassesOwn.never rfl (pi_range1 (by rfl) B.range (pa_cons pe_int pa_nil)) (pg_name (i := 7) scArcs.nd rfl (Or.inl rfl))
          (pss_cons (ps_set (i := 8) scArcs.nd rfl (Or.inl rfl) (pe_op op_mod (pe_callTy call_int1 (by rfl) B.int (by decide +kernel) (pa_cons (pe_op op_add (pv 5) (pe_op op_mul (pv 7) (pv 6))) pa_nil)) pe_int))
          (pss_cons (ps_set (i := 9) scArcs.nd rfl (Or.inl rfl) (pe_op op_mod (pe_callTy call_int1 (by rfl) B.int (by decide +kernel) (pa_cons (pe_op op_add (pe_op op_add (pv 5) (pe_op op_mul (pv 7) (pv 6))) (pv 6)) pa_nil)) pe_int))
          (pss_cons (ps_dput hu (pv 4) (pe_tup (pa_cons (pv 8) (pa_cons (pv 9) pa_nil))) pe_bl rfl)
          (pss_one (ps_dput hu (pv 4) (pe_tup (pa_cons (pv 9) (pa_cons (pv 8) pa_nil))) pe_bl rfl))))))
        (pss_one (ps_for PassesOwn.never rfl (pi_range1 (by rfl) B.range (pa_cons (pe_call okD (hr.mono (by omega)) (by rfl) gD kD bD .nil pass0 (pa_cons (pv 0) (pa_cons pe_int pa_nil))) pa_nil)) (pg_name (i := 7) scArcs.nd rfl (Or.inl rfl))
          (pss_cons (ps_set (i := 8) scArcs.nd rfl (Or.inl rfl) (pe_call okD (hr.mono (by omega)) (by rfl) gD kD bD .nil pass0 (pa_cons (pv 0) (pa_cons pe_int pa_nil))))
          (pss_cons (ps_set (i := 9) scArcs.nd rfl (Or.inl rfl) (pe_op op_mod (pe_callTy call_int1 (by rfl) B.int (by decide +kernel) (pa_cons (pe_op op_add (pe_op op_add (pv 8) pe_int) (pe_call okD (hr.mono (by omega)) (by rfl) gD kD bD .nil pass0 (pa_cons (pv 0) (pa_cons pe_int pa_nil)))) pa_nil)) pe_int))
          (pss_one (ps_if (pt_cmp (pc_din hu (pe_tup (pa_cons (pv 8) (pa_cons (pv 9) pa_nil))) (pv 4)))
            (pss_one (ps_expr (pe_bm PySem.F.plainAttrs_dict PySem.F.slot_dict_pop PySem.F.type_dict_pop (R3.mt_popT1 hu) (pv 4) (pa_cons (pe_tup (pa_cons (pv 8) (pa_cons (pv 9) pa_nil))) pa_nil))))
            (pss_one (ps_dput hu (pv 4) (pe_tup (pa_cons (pv 8) (pa_cons (pv 9) pa_nil))) pe_bl rfl))))))))))))
        (pss_cons (ps_set (i := 10) scArcs.nd rfl (Or.inl rfl) (pe_ix ix_list (pe_lst (pa_cons pe_int (pa_cons pe_int (pa_cons pe_int (pa_cons pe_int (pa_cons pe_int pa_nil)))))) (pe_call okD (hr.mono (by omega)) (by rfl) gD kD bD .nil pass0 (pa_cons (pv 0) (pa_cons pe_int pa_nil))) (fun _ _ => rfl)))
        (pss_one (ps_for PassesOwn.never rfl (pi_range1 (by rfl) B.range (pa_cons (pv 3) pa_nil)) (pg_name (i := 11) scArcs.nd rfl (Or.inl rfl))
          (pss_one (ps_for PassesOwn.never rfl (pi_range1 (by rfl) B.range (pa_cons (pv 3) pa_nil)) (pg_name (i := 12) scArcs.nd rfl (Or.inl rfl))
            (pss_one (ps_if (PW.pt (pw_and (pt_cmpR op_ne (pv 11) (pv 12) (nomark _)) (pw_and1 (pt_cmpR op_lt (pe_call okD (hr.mono (by omega)) (by rfl) gD kD bD .nil pass0 (pa_cons (pv 0) (pa_cons pe_int pa_nil))) (pv 10) (nomark _)))))
              (pss_one (ps_dput hu (pv 4) (pe_tup (pa_cons (pv 11) (pa_cons (pv 12) pa_nil))) pe_bl rfl)) pss_nil))))))))
      (pss_one (ps_ret (pe_tup (pa_cons (pv 3) (pa_cons (pe_callTy call_tuple_of (by rfl) B.tuple (by decide +kernel) (pa_cons (pe_callB (R3.cr_sortedDT rfl) (by rfl) B.sorted (by decide +kernel) (pa_cons (pv 4) pa_nil)) pa_nil)) pa_nil))))))), ?_⟩
    -- a draw
    refine ⟨.ref a, rfl, .int 9, rfl, a, 9, ns, rfl, by decide, hL, fun d0 ns0 H0 d00 d01 g0 e0 => ?_⟩
    refine ⟨1, d0, rfl, rfl, fun dd hdd => ?_⟩
    have hdd0 : H dd = none := g0.free hdd (fun z => by rw [Option.some.inj z, e0] at hdd; cases hdd)
    have nda : dd ≠ a := fun z => by rw [z, e0] at hdd; cases hdd
    have as0 : ∀ n, AS H a dd n 0 (upd H0 dd (.dT [])) := fun n => ⟨g0.freshx hdd0, ⟨ns0, by rw [upd_ne nda.symm]; exact e0⟩, ⟨[], upd_same, fun kv h => absurd h (by simp), Nat.le_refl _⟩, nda, hdd0⟩
    generalize upd H0 dd (.dT []) = H1 at *
    obtain ⟨ns1, e1⟩ := (as0 0).po
    refine ⟨.ref a, rfl, a, 6, ns1, rfl, by decide, e1, fun d1 ns2 H2 d10 d11 g1 e2 => ?_⟩
    refine ⟨.int 2, rfl, d1, 2, rfl, rfl, _, rfl, ite2 (fun zz => ?_) (fun zz => ?_)⟩
    · -- the two-way ring
      have as1 := (as0 5).draw g1 e2
      refine ⟨.ref a, rfl, a, 5, ns2, rfl, by decide, e2, fun tu ns3 H3 tu0 tu1 g2 e3 => ?_⟩
      have as2 := as1.draw g2 e3
      refine ⟨.ref a, rfl, a, 2, ns3, rfl, by decide, e3, fun st ns4 H4 st0 st1 g3 e4 => ?_⟩
      have as3 := as2.draw g3 e4
      refine ⟨1, st, rfl, rfl, 5, rfl, by decide, by decide, ?_⟩
      refine for_it (walk_range (lo := 0) (n := 5)) (fun i σ H5 => AS H a dd 5 (2 * i) H5 ∧ ∃ (y7 y8 y9 y10 y11 y12 : Option V), σ = [some (.ref a), some (.int 9), some (.int 2), some (.int 5), some (.ref dd), some (.int tu), some (.int (1 + st)), y7, y8, y9, y10, y11, y12])
        ⟨as3, none, none, none, none, none, none, rfl⟩ (fun j σ H3 _ _ => trivial) (fun i xv σ HH H5 hi hP y => ?_) fun σ H5 hP => ?_
      · obtain ⟨as, y7, y8, y9, y10, y11, y12, rfl⟩ := hP
        obtain ⟨rfl, rfl⟩ := y
        refine ⟨.int tu, rfl, .int (0 + i), rfl, .int (1 + st), rfl, _, _, rfl, rfl, .inl ⟨by omega, by omega⟩, _, _, rfl, rfl, .inl ⟨_, rfl, _, 5, rfl, rfl, (by show (0 : Int) < 5; decide), ?_⟩⟩
        obtain ⟨x, ex⟩ : ∃ x, tu + (0 + (i : Int)) * (1 + st) = x := ⟨_, rfl⟩
        refine ⟨.int tu, rfl, .int (0 + i), rfl, .int (1 + st), rfl, _, _, rfl, rfl, .inl ⟨by omega, by omega⟩, _, _, rfl, rfl, .int (1 + st), rfl, _, _, rfl, rfl, .inl ⟨_, rfl, _, 5, rfl, rfl, (by show (0 : Int) < 5; decide), ?_⟩⟩
        have o1 : OkP 5 (x % 5, (x + (1 + st)) % 5) := ⟨by show 0 ≤ x % 5; omega, by show x % 5 < 5; omega, by show 0 ≤ (x + (1 + st)) % 5; omega, by show (x + (1 + st)) % 5 < 5; omega, by show x % 5 ≠ (x + (1 + st)) % 5; omega⟩
        have o2 : OkP 5 ((x + (1 + st)) % 5, x % 5) := ⟨o1.2.2.1, o1.2.2.2.1, o1.1, o1.2.1, fun z => o1.2.2.2.2 z.symm⟩
        refine ⟨.ref dd, rfl, .int (x % 5), (by rw [← ex]; rfl), .int ((x + (1 + st)) % 5), (by rw [← ex]; rfl), by show 2 ≤ sizeLine; decide, fun t ht => ?_⟩
        obtain ⟨H6, p1, as6⟩ := as.put ht o1 (by omega)
        refine ⟨dd, H6, rfl, p1, .ref dd, rfl, .int ((x + (1 + st)) % 5), (by rw [← ex]; rfl), .int (x % 5), (by rw [← ex]; rfl), by show 2 ≤ sizeLine; decide, fun t2 ht2 => ?_⟩
        obtain ⟨H7, p2, as7⟩ := as6.put ht2 o2 (by omega)
        exact ⟨dd, H7, rfl, p2, as7, _, _, _, _, _, _, rfl⟩
      · obtain ⟨as, y7, y8, y9, y10, y11, y12, rfl⟩ := hP
        obtain ⟨ns5, e5⟩ := as.po
        refine ⟨.ref a, rfl, a, 4, ns5, rfl, by decide, e5, fun d4 ns6 H6 d40 d41 g6 e6 => ?_⟩
        have as6 := as.draw g6 e6
        refine ⟨d4, rfl, by omega, by omega, ?_⟩
        refine for_it (walk_range (lo := 0) (n := d4.toNat)) (fun i σ H5 => AS H a dd 5 (10 + i) H5 ∧ ∃ (y7 y8 y9 y10 y11 y12 : Option V), σ = [some (.ref a), some (.int 9), some (.int 2), some (.int 5), some (.ref dd), some (.int tu), some (.int (1 + st)), y7, y8, y9, y10, y11, y12])
          ⟨as6, _, _, _, _, _, _, rfl⟩ (fun j σ H3 _ _ => trivial) (fun i xv σ HH H7 hi hP y => ?_) fun σ H7 hP => ?_
        · obtain ⟨as, y7, y8, y9, y10, y11, y12, rfl⟩ := hP
          obtain ⟨rfl, rfl⟩ := y
          obtain ⟨ns7, e7⟩ := as.po
          refine ⟨.ref a, rfl, a, 5, ns7, rfl, by decide, e7, fun one ns8 H8 on0 on1 g8 e8 => ?_⟩
          have as8 := as.draw g8 e8
          refine ⟨.int one, rfl, _, 1, rfl, rfl, .ref a, rfl, a, 4, ns8, rfl, by decide, e8, fun d9 ns9 H9 d90 d91 g9 e9 => ?_⟩
          have as9 := as8.draw g9 e9
          refine ⟨_, _, rfl, rfl, .inl ⟨_, rfl, _, 5, rfl, rfl, (by show (0 : Int) < 5; decide), ?_⟩⟩
          have o1 : OkP 5 (one, (one + 1 + d9) % 5) := ⟨on0, on1, by show 0 ≤ (one + 1 + d9) % 5; omega, by show (one + 1 + d9) % 5 < 5; omega, by show one ≠ (one + 1 + d9) % 5; omega⟩
          refine ⟨.int one, rfl, .int ((one + 1 + d9) % 5), rfl, by show 2 ≤ sizeLine; decide, fun t ht => ?_⟩
          have asA := as9.new (o := .tup [.int one, .int ((one + 1 + d9) % 5)]) ht
          obtain ⟨kvs, k1, k2, k3⟩ := asA.di
          refine ⟨.ref dd, rfl, dd, _, rfl, DGet.t (k := R3.pk (one, (one + 1 + d9) % 5)) k1 upd_same, _, rfl, ite2 (fun z2 => ?_) (fun z2 => ?_)⟩
          · refine ⟨.ref dd, rfl, .inr (.inr (.inl ⟨rfl, .inr ⟨_, k1⟩⟩)), .int one, rfl, .int ((one + 1 + d9) % 5), rfl, by show 2 ≤ sizeLine; decide, fun t2 ht2 => ?_⟩
            have asB := asA.new (o := .tup [.int one, .int ((one + 1 + d9) % 5)]) ht2
            have k1' := (Gr.new (x := none) (o := .tup [.int one, .int ((one + 1 + d9) % 5)]) ht2).keep dd _ (by simp) k1 (fun _ z => nomatch z)
            obtain ⟨vv, evv⟩ := Option.isSome_iff_exists.mp z2
            refine ⟨dd, kvs, R3.pk (one, (one + 1 + d9) % 5), t2, vv, rfl, rfl, k1', upd_same, evv, ?_⟩
            exact ⟨asB.set k2.drop (Nat.le_trans (dropK_le _ _) (by omega)), _, _, _, _, _, _, rfl⟩
          · refine ⟨.ref dd, rfl, .int one, rfl, .int ((one + 1 + d9) % 5), rfl, by show 2 ≤ sizeLine; decide, fun t2 ht2 => ?_⟩
            obtain ⟨H7', p2, as7⟩ := asA.put (p := (one, (one + 1 + d9) % 5)) ht2 o1 (by omega)
            exact ⟨dd, H7', rfl, p2, as7, _, _, _, _, _, _, rfl⟩
        · obtain ⟨as, y7, y8, y9, y10, y11, y12, rfl⟩ := hP
          obtain ⟨ns9, hpo⟩ := as.po
          obtain ⟨kvs, k1, k2, k3⟩ := as.di
          obtain ⟨ps, kp, kok⟩ := k2.list
          have hpl : ps.length = kvs.length := by
            have := congrArg List.length kp
            rw [List.length_map, List.length_map] at this
            exact this.symm
          refine ⟨_, rfl, .ref dd, rfl, dd, kvs, ps, rfl, k1, kp, fun l ys qs hnd hperm hpw hpair hl => ?_⟩
          obtain as2 := as.new (o := .lst ys) hl
          have t1 : TpAll K (upd _ l (.lst ys)) ys (qs.map arcD) := (tp_arcs hpair).gr0 (Gr.new hl)
          refine ⟨l, ys, rfl, .inl ⟨SqL.of upd_same, fun z hz => ⟨by show 2 ≤ sizeLine; decide, fun z2 hz2 => ?_⟩⟩⟩
          obtain as3 := (as2.new (o := .tup ys) hz).new (o := .tup [.int 5, .ref z]) hz2
          obtain ⟨ns8, hp8⟩ := as3.po
          have gz : Gr none _ _ := Gr.new (o := .tup ys) hz
          have gz2 : Gr none _ _ := Gr.new (o := .tup [.int 5, .ref z]) hz2
          refine q _ _ 5 qs ns8 as3.gr hp8 (by omega) (by omega) (sorted_arcs hnd hperm hpw kok (by omega)) (.tup (.inl (.inl upd_same)) (.cons (.int 5) (.cons ?_ .nil)))
          exact (Tp.tup (.inl (.inl upd_same)) (t1.gr0 gz)).gr0 gz2
    · -- drawn arcs
      obtain ⟨n, en⟩ : ∃ n : Nat, 1 + d0 = n := ⟨(1 + d0).toNat, by omega⟩
      have as1 := (as0 n).draw g1 e2
      refine ⟨by show 5 ≤ sizeLine; decide, fun ml hml => ?_⟩
      have as2 := as1.new (o := .lst [.int 1, .int 2, .int 3, .int 5, .int 6]) hml
      obtain ⟨ns3, e3⟩ := as2.po
      have hml2 : (upd H2 ml (.lst [.int 1, .int 2, .int 3, .int 5, .int 6])) ml = some (.lst [.int 1, .int 2, .int 3, .int 5, .int 6]) := upd_same
      have nml : ml ≠ a := fun z => by rw [z, e2] at hml; cases hml
      generalize upd H2 ml (.lst [.int 1, .int 2, .int 3, .int 5, .int 6]) = H3 at *
      refine ⟨.ref a, rfl, a, 5, ns3, rfl, by decide, e3, fun d5 ns4 H4 d50 d51 g4 e4 => ?_⟩
      have as4 := as2.draw g4 e4
      have hml4 := g4.keep ml _ (fun z => nml (Option.some.inj z)) hml2 (fun _ z => nomatch z)
      obtain ⟨j5, rfl⟩ := Int.eq_ofNat_of_zero_le d50
      obtain ⟨mv, emv, cmv⟩ : ∃ mv : Int, ([V.int 1, .int 2, .int 3, .int 5, .int 6] : List V)[j5]? = some (.int mv) ∧ True := by
        have : j5 < 5 := by omega
        match j5, this with
        | 0, _ => exact ⟨1, rfl, trivial⟩
        | 1, _ => exact ⟨2, rfl, trivial⟩
        | 2, _ => exact ⟨3, rfl, trivial⟩
        | 3, _ => exact ⟨5, rfl, trivial⟩
        | 4, _ => exact ⟨6, rfl, trivial⟩
      refine ⟨ml, _, j5, .int mv, rfl, rfl, SqL.of hml4, atI_nat (j := j5) emv, ?_⟩
      refine ⟨.int (1 + d0), rfl, 1 + d0, rfl, by omega, by omega, ?_⟩
      rw [en]
      refine for_it (walk_range (lo := 0) (n := n)) (fun i σ H5 => AS H a dd n (9 * i) H5 ∧ ∃ (y5 y6 y7 y8 y9 y11 y12 : Option V), σ = [some (.ref a), some (.int 9), some (.int 2), some (.int n), some (.ref dd), y5, y6, y7, y8, y9, some (.int mv), y11, y12])
        ⟨as4.mono (by omega), none, none, none, none, none, none, none, (by rw [← en]; rfl)⟩ (fun j σ H3 _ _ => trivial) (fun i xv σ HH H5 hi hP y => ?_) fun σ H5 hP => ?_
      · obtain ⟨as, y5, y6, y7, y8, y9, y11, y12, rfl⟩ := hP
        obtain ⟨rfl, rfl⟩ := y
        refine ⟨.int n, rfl, n, rfl, by omega, by omega, ?_⟩
        refine for_it (walk_range (lo := 0) (n := n)) (fun j σ H5 => AS H a dd n (9 * i + j) H5 ∧ ∃ (y5 y6 y7 y8 y9 y12 : Option V), σ = [some (.ref a), some (.int 9), some (.int 2), some (.int n), some (.ref dd), y5, y6, y7, y8, y9, some (.int mv), some (.int (0 + (i : Int))), y12])
          ⟨as, _, _, _, _, _, _, rfl⟩ (fun j σ H3 _ _ => trivial) (fun j xv σ HH H6 hj hP y => ?_) fun σ H6 hP => ?_
        · obtain ⟨as, y5, y6, y7, y8, y9, y12, rfl⟩ := hP
          obtain ⟨rfl, rfl⟩ := y
          refine ⟨.int (0 + i), rfl, .int (0 + j), rfl, rfl, _, rfl, ite2 (fun z1 => ?_) (fun z1 => ?_)⟩
          · obtain ⟨ns7, e7⟩ := as.po
            refine ⟨.ref a, rfl, a, 6, ns7, rfl, by decide, e7, fun d8 ns8 H8 _ _ g8 e8 => ?_⟩
            have as8 := as.draw g8 e8
            refine ⟨.int mv, rfl, _, _, rfl, rfl, _, rfl, ite2 (fun z2 => ?_) (fun z2 => ?_)⟩
            · refine ⟨.ref dd, rfl, .int (0 + i), rfl, .int (0 + j), rfl, by show 2 ≤ sizeLine; decide, fun t ht => ?_⟩
              have hij : i ≠ j := fun e => by
                subst e
                simp at z1
              have o1 : OkP n ((0 + (i : Int)), (0 + (j : Int))) := ⟨by show 0 ≤ 0 + (i : Int); omega, by show 0 + (i : Int) < n; omega, by show 0 ≤ 0 + (j : Int); omega, by show 0 + (j : Int) < n; omega, by show 0 + (i : Int) ≠ 0 + (j : Int); omega⟩
              obtain ⟨H9, p9, as9⟩ := as8.put (p := (0 + (i : Int), 0 + (j : Int))) ht o1 (by omega)
              exact ⟨dd, H9, rfl, p9, as9, _, _, _, _, _, _, rfl⟩
            · exact ⟨as8.mono (by omega), _, _, _, _, _, _, rfl⟩
          · exact ⟨as.mono (by omega), _, _, _, _, _, _, rfl⟩
        · obtain ⟨as, y5, y6, y7, y8, y9, y12, rfl⟩ := hP
          exact ⟨as.mono (by omega), _, _, _, _, _, _, _, rfl⟩
      · obtain ⟨as, y5, y6, y7, y8, y9, y11, y12, rfl⟩ := hP
        obtain ⟨ns9, hpo⟩ := as.po
        obtain ⟨kvs, k1, k2, k3⟩ := as.di
        obtain ⟨ps, kp, kok⟩ := k2.list
        have hpl : ps.length = kvs.length := by
          have := congrArg List.length kp
          rw [List.length_map, List.length_map] at this
          exact this.symm
        refine ⟨_, rfl, .ref dd, rfl, dd, kvs, ps, rfl, k1, kp, fun l ys qs hnd hperm hpw hpair hl => ?_⟩
        obtain as2 := as.new (o := .lst ys) hl
        have t1 : TpAll K (upd _ l (.lst ys)) ys (qs.map arcD) := (tp_arcs hpair).gr0 (Gr.new hl)
        refine ⟨l, ys, rfl, .inl ⟨SqL.of upd_same, fun z hz => ⟨by show 2 ≤ sizeLine; decide, fun z2 hz2 => ?_⟩⟩⟩
        obtain as3 := (as2.new (o := .tup ys) hz).new (o := .tup [.int n, .ref z]) hz2
        obtain ⟨ns8, hp8⟩ := as3.po
        have gz : Gr none _ _ := Gr.new (o := .tup ys) hz
        have gz2 : Gr none _ _ := Gr.new (o := .tup [.int n, .ref z]) hz2
        refine q _ _ n qs ns8 as3.gr hp8 (by omega) (by omega) (sorted_arcs hnd hperm hpw kok (by omega)) (.tup (.inl (.inl upd_same)) (.cons (.int n) (.cons ?_ .nil)))
        exact (Tp.tup (.inl (.inl upd_same)) (t1.gr0 gz)).gr0 gz2
end
end Lk

namespace Lk
open PySem PySem.Spec PyProof.Rows L2 GxR RZ
/-! ### unit rows: plain -/
abbrev zeroR (n : Nat) : List Int := (List.range n).map fun _ => 0
abbrev uRow (n : Nat) (i : Nat) : List Int := unitR n [(i : Int)]
/-- the numbers of a space of unit rows, rising -/
abbrev js (n : Nat) (f : Nat → Bool) : List Nat := (List.range n).filter f
abbrev uS (n : Nat) (f : Nat → Bool) : List (List Int) := (js n f).map fun i => uRow n i
theorem uRow_eq (n i : Nat) : uRow n i = (List.range n).map fun (j : Nat) => if j = i then (1 : Int) else 0 := by
  unfold uRow unitR
  refine List.map_congr_left fun j _ => ?_
  by_cases h : j = i
  · subst h
    rw [if_pos (List.mem_singleton.mpr rfl), if_pos rfl]
  · rw [if_neg (fun z => h (by have := List.mem_singleton.mp z; omega)), if_neg h]
theorem uRow_len (n i : Nat) : (uRow n i).length = n := by rw [uRow_eq, List.length_map, List.length_range]
theorem zero_len (n : Nat) : (zeroR n).length = n := by rw [List.length_map, List.length_range]
theorem uRow_get {n i j : Nat} (h : j < n) : (uRow n i)[j]? = some (if j = i then 1 else 0) := by
  rw [uRow_eq, List.getElem?_map, List.getElem?_range h]; rfl
theorem zero_get {n j : Nat} (h : j < n) : (zeroR n)[j]? = some 0 := by
  rw [List.getElem?_map, List.getElem?_range h]; rfl
/-- the column of the first letter that is not 0 -/
def headF (r : List Int) : Nat := r.findIdx fun x => decide (x ≠ 0)
theorem head_zero (n : Nat) : headF (zeroR n) = n := by
  unfold headF
  rw [List.findIdx_eq_length_of_false (by
    intro x hx
    obtain ⟨_, _, rfl⟩ := List.mem_map.mp hx
    rfl), zero_len]
theorem head_unit {n i : Nat} (h : i < n) : headF (uRow n i) = i := by
  unfold headF
  have hl : i < (uRow n i).length := by rw [uRow_len]; exact h
  rw [List.findIdx_eq hl]
  constructor
  · have := uRow_get (n := n) (i := i) (j := i) h
    rw [List.getElem?_eq_getElem hl] at this
    rw [Option.some.inj this, if_pos rfl]
    rfl
  · intro j hj
    have := uRow_get (n := n) (i := i) (j := j) (by omega)
    rw [List.getElem?_eq_getElem (by omega)] at this
    rw [Option.some.inj this, if_neg (by omega)]
    rfl
/-- the row plus the letter times the other -/
def plusF (p : Int) (r : List Int) (letter : Int) (o : List Int) : List Int := List.zipWith (fun one two => (one + letter * two) % p) r o
theorem plus_rows {p letter : Int} {n : Nat} {f g h : Nat → Int} (e : ∀ j, j < n → (f j + letter * g j) % p = h j) : plusF p ((List.range n).map f) letter ((List.range n).map g) = (List.range n).map h := by
  unfold plusF
  rw [List.zipWith_map, List.zipWith_self]
  exact List.map_congr_left fun j hj => e j (List.mem_range.mp hj)
theorem plus_zero {p : Int} (hp : 2 ≤ p) (n i : Nat) : plusF p (uRow n i) (p - 1) (uRow n i) = zeroR n := by
  rw [uRow_eq]
  refine plus_rows fun j _ => ?_
  by_cases h : j = i
  · rw [if_pos h]
    show (1 + (p - 1) * 1) % p = 0
    rw [show 1 + (p - 1) * 1 = p by omega, Int.emod_self]
  · rw [if_neg h]
    show (0 + (p - 1) * 0) % p = 0
    rw [Int.mul_zero]; rfl
theorem plus_same {p : Int} (hp : 2 ≤ p) (n i j : Nat) : plusF p (uRow n j) p (uRow n i) = uRow n j := by
  rw [uRow_eq, uRow_eq]
  refine plus_rows fun k _ => ?_
  rw [Int.add_mul_emod_self_left]
  split <;> (rw [Int.emod_eq_of_lt (by omega) (by omega)])
theorem scale_same {p : Int} (hp : 2 ≤ p) (n i : Nat) : (uRow n i).map (fun l => l * 1 % p) = uRow n i := by
  rw [uRow_eq, List.map_map]
  refine List.map_congr_left fun k _ => ?_
  show (if k = i then (1 : Int) else 0) * 1 % p = _
  split <;> (rw [Int.mul_one, Int.emod_eq_of_lt (by omega) (by omega)])
/-- a number put among the others -/
theorem js_put {n i : Nat} {f : Nat → Bool} (hi : i < n) (hf : f i = false) :
    js n (fun x => f x || decide (x = i)) = (js n f).filter (fun j => decide (j < i)) ++ [i] ++ (js n f).drop ((js n f).filter fun j => decide (j < i)).length := by
  have e0 : List.range n = List.range i ++ (i :: (List.range n).drop (i + 1)) := by
    have h1 := (List.take_append_drop i (List.range n)).symm
    rw [List.take_range, Nat.min_eq_left (Nat.le_of_lt hi), List.drop_eq_getElem_cons (by rw [List.length_range]; exact hi), List.getElem_range] at h1
    exact h1
  have hB : ∀ x ∈ (List.range n).drop (i + 1), i < x := fun x hx => by
    obtain ⟨k, hk, e⟩ := List.mem_iff_getElem.mp hx
    rw [List.getElem_drop, List.getElem_range] at e
    omega
  generalize (List.range n).drop (i + 1) = B at *
  unfold js
  rw [e0, List.filter_append, List.filter_append, List.filter_cons_of_pos (by simp), List.filter_cons_of_neg (by rw [hf]; decide)]
  have a1 : (List.range i).filter (fun x => f x || decide (x = i)) = (List.range i).filter f := List.filter_congr fun x hx => by
    have := List.mem_range.mp hx
    rw [decide_eq_false (by omega), Bool.or_false]
  have b1 : B.filter (fun x => f x || decide (x = i)) = B.filter f := List.filter_congr fun x hx => by
    have := hB x hx
    rw [decide_eq_false (by omega), Bool.or_false]
  have a2 : ((List.range i).filter f).filter (fun j => decide (j < i)) = (List.range i).filter f := List.filter_eq_self.mpr fun x hx => decide_eq_true (List.mem_range.mp (List.mem_filter.mp hx).1)
  have b2 : (B.filter f).filter (fun j => decide (j < i)) = [] := List.filter_eq_nil_iff.mpr fun x hx => by
    have := hB x (List.mem_filter.mp hx).1
    rw [decide_eq_true_eq]; omega
  rw [a1, b1, List.filter_append, a2, b2, List.append_nil, List.drop_left, List.append_assoc]
  rfl
theorem js_nd (n : Nat) (f : Nat → Bool) : (js n f).Nodup := List.nodup_range.sublist List.filter_sublist
theorem js_lt {n : Nat} {f : Nat → Bool} {j : Nat} (h : j ∈ js n f) : j < n ∧ f j = true := ⟨List.mem_range.mp (List.mem_filter.mp h).1, (List.mem_filter.mp h).2⟩
/-- what the steps keep -/
theorem take_good {arcs : List (Int × Int)} : ∀ (m : Nat) (l st : List Int), takeF arcs m l = some st → ∀ t x, st[t]? = some x → x ∈ l ∧ x ∉ st.take t ∧ ∀ j ∈ knowsI arcs x, j ∉ l ∨ j ∈ st.take t
  | 0, _, st, h, t, x, e => by
    cases h
    simp at e
  | m + 1, l, st, h, t, x, e => by
    obtain ⟨x0, r, st', hf, ht, rfl⟩ := takeF_step h
    have hx0 : x0 ∈ l ∧ freeB arcs l x0 = true := List.mem_filter.mp (by rw [hf]; simp)
    cases t with
    | zero =>
      rw [List.getElem?_cons_zero] at e
      cases e
      refine ⟨hx0.1, by simp, fun j hj => .inl ?_⟩
      exact of_decide_eq_true (List.all_eq_true.mp hx0.2 j hj)
    | succ t =>
      rw [List.getElem?_cons_succ] at e
      obtain ⟨h1, h2, h3⟩ := take_good m _ st' ht t x e
      obtain ⟨h4, h5⟩ := List.mem_filter.mp h1
      have h5 := of_decide_eq_true h5
      refine ⟨h4, ?_, fun j hj => ?_⟩
      · rw [List.take_succ_cons]
        intro z
        rcases List.mem_cons.mp z with z | z
        · exact h5 z
        · exact h2 z
      · rw [List.take_succ_cons]
        rcases h3 j hj with z | z
        · by_cases hjx : j = x0
          · right; rw [hjx]; simp
          · left
            intro hm
            exact z (List.mem_filter.mpr ⟨hm, decide_eq_true hjx⟩)
        · right; exact List.mem_cons_of_mem _ z
end Lk

namespace Lk
open PySem PySem.Spec PyProof.Rows L2 GxR RZ
section
variable {P : Program} {w : World} {K : PySem.W.Frag} {mg : Str → Option Value} {base : Heap}
/-! ### inverse_of, of 1 -/
abbrev sInv : Stmt := top 23
theorem scInv : FnScope ["p", "a", "b"] ["p", "a"] (defScope sInv) := ⟨rfl, rfl, rfl, by decide +kernel, rfl, by decide +kernel, by decide +kernel⟩
def spInv : Sp := fun vs H Q _ => ∃ p : Nat, vs = [.int p, .int 1] ∧ isF (.int p) = true ∧ Q (.int 1) H
theorem ok_inv {f : Addr} {fd : FuncData} {k : Nat} (F : Fun K "inverse_of" "inverse_of" sInv f fd) (B : Bi mg) (L1 : Cal P w K mg base CX0 1 "is_field" ["p"] (spField K)) (L2 : Cal P w K mg base CX0 1 "is_letter" ["value", "p"] (spBelow K)) : FnOk P w K mg base CX0 (k + 2) f fd ["p", "a"] spInv := by
  obtain ⟨fF, fdF, okF, gF, kF, bF⟩ := L1.ex
  obtain ⟨fL, fdL, okL, gL, kL, bL⟩ := L2.ex
  refine F.ok scInv (fun vs H Q E h => ?_) (fun cdv A outer s H vs Q E hr h => ?_)
  · obtain ⟨p, rfl, _⟩ := h; rfl
  · obtain ⟨p, rfl, hF, q⟩ := h
    obtain ⟨hp2, hp13⟩ := isF_lo hF
    refine ⟨_, pss_cons (ps_if (pt_not (pt_val (pe_call okF (hr.mono (by omega)) (by rfl) gF kF bF .nil pass0 (pa_cons (pv 0) pa_nil)))) (pss_one ps_never) pss_nil)
      (pss_cons (ps_if (pt_not (pt_val (pe_call okL (hr.mono (by omega)) (by rfl) gL kL bL .nil pass0 (pa_cons (pv 1) (pa_cons (pv 0) pa_nil))))) (pss_one ps_never) pss_nil)
      (pss_cons (ps_for PassesOwn.never rfl (pi_range2 (by rfl) B.range (pa_cons pe_int (pa_cons (pv 0) pa_nil))) (pg_name (i := 2) scInv.nd rfl (Or.inl rfl))
        (pss_one (ps_if (pt_cmpR op_eq (pe_op op_mod (pe_op op_mul (pv 1) (pv 2)) (pv 0)) pe_int (nomark _)) (pss_one (ps_ret (pv 2))) pss_nil)))
      (pss_one ps_never))), ?_⟩
    refine ⟨.int p, rfl, .int p, .int p, rfl, .int _, _, rfl, ite2 (fun z => absurd z (by rw [hF]; decide)) fun _ => ?_⟩
    have hb : isB (.int 1) p = true := isB_of (by omega) (by omega)
    refine ⟨.int 1, rfl, .int p, rfl, .int 1, .int 1, p, rfl, .int _, _, rfl, ite2 (fun z => absurd z (by rw [hb]; decide)) fun _ => ?_⟩
    refine ⟨.int p, rfl, 1, p, rfl, ⟨by decide, by decide, by omega, by omega⟩, ?_⟩
    refine for_it (walk_range (lo := 1) (n := ((p : Int) - 1).toNat)) (fun i σ H2 => H2 = H ∧ i = 0 ∧ σ = [some (.int p), some (.int 1), none]) ⟨rfl, rfl, rfl⟩ (fun i σ H2 _ h => trivial) (fun i x σ H0 H2 hi hP y => ?_) fun σ H2 hP => ?_
    · obtain ⟨e0, rfl, rfl⟩ := hP
      obtain ⟨rfl, rfl⟩ := y
      subst e0
      refine ⟨.int 1, rfl, .int (1 + (0 : Nat)), rfl, 1, _, rfl, rfl, .inl ⟨by decide, by decide⟩, .int p, rfl, _, p, rfl, rfl, (by show (0 : Int) < p; omega), rfl, _, rfl, ite2 (fun _ => ⟨.int (1 + (0 : Nat)), rfl, q⟩) fun z => ?_⟩
      refine absurd (decide_eq_true ?_) z
      show V.int ((1 * (1 + ((0 : Nat) : Int))) % (p : Int)) = V.int 1
      rw [show (1 * (1 + ((0 : Nat) : Int))) = 1 by decide, Int.emod_eq_of_lt (by omega) (by omega)]
    · obtain ⟨_, h0, _⟩ := hP
      omega
/-! ### head_of -/
abbrev sHead : Stmt := top 43
theorem scHead : FnScope ["row", "column", "letter"] ["row"] (defScope sHead) := ⟨rfl, rfl, rfl, by decide +kernel, rfl, by decide +kernel, by decide +kernel⟩
def spHead (K : PySem.W.Frag) : Sp := fun vs H Q _ => ∃ (v : V) (r : List Int), vs = [v] ∧ Tp K H v (rowD r) ∧ r.length ≤ 1000 ∧ ∀ H', Gr none H H' → Q (.int (headF r)) H'
theorem ok_head {f : Addr} {fd : FuncData} {k : Nat} (F : Fun K "head_of" "head_of" sHead f fd) (B : Bi mg) : FnOk P w K mg base CX0 (k + 1) f fd ["row"] (spHead K) := by
  refine F.ok scHead (fun vs H Q E h => ?_) (fun cdv A outer s H vs Q E hr h => ?_)
  · obtain ⟨v, r, rfl, _⟩ := h; rfl
  · obtain ⟨v, r, rfl, hd, hlen, q⟩ := h
    obtain ⟨a, rfl, hs⟩ := hd.ints
    refine ⟨_, pss_cons (ps_for PassesOwn.never rfl (ET.pi_enumT (by rfl) B.enum (pa_cons (pv 0) pa_nil)) (pg_tup rfl (pgs_cons (pg_name (i := 1) scHead.nd rfl (Or.inl rfl)) (pgs_cons (pg_name (i := 2) scHead.nd rfl (Or.inl rfl)) pgs_nil)))
        (pss_one (ps_if (pt_cmpR op_ne (pv 2) pe_int (nomark _)) (pss_one (ps_ret (pv 1))) pss_nil)))
      (pss_one (ps_ret (lenS B (pv 0)))), ?_⟩
    refine ⟨.ref a, rfl, a, _, rfl, hs, ?_⟩
    refine for_it walk_enumT (fun i σ H2 => Gr none H H2 ∧ (∀ x ∈ r.take i, x = 0) ∧ ∃ (y1 y2 : Option V), σ = [some (.ref a), y1, y2])
      ⟨Gr.refl, by simp, none, none, rfl⟩ (fun i σ H2 _ h => h.1.sqT .none hs) (fun i x σ H2 H3 hi h y => ?_) fun σ H2 h => ?_
    · obtain ⟨g, h0, y1, y2, rfl⟩ := h
      obtain ⟨T, x1, x2, rfl, hT, rfl, ex1, ex2⟩ := y
      cases ex1
      rw [List.length_map] at hi
      replace ex2 : (r.map V.int)[i]? = some x2 := ex2
      rw [List.getElem?_map, List.getElem?_eq_getElem hi] at ex2
      cases ex2
      have g3 : Gr none H2 (upd H2 T (.tup [V.int (i : Nat), V.int r[i]])) := Gr.new hT
      refine ⟨T, _, rfl, .inl (.inl upd_same), rfl, _, _, rfl, _, _, rfl, rfl, ?_⟩
      refine ⟨.int r[i], rfl, rfl, _, rfl, ite2 (fun z => ⟨.int (i : Nat), rfl, ?_⟩) (fun z => ⟨g.trans g3, fun x hx => ?_, _, _, rfl⟩)⟩
      · have hne : r[i] ≠ 0 := fun e => by
          rw [e] at z
          simp at z
        have e : headF r = i := by
          unfold headF
          rw [List.findIdx_eq hi]
          refine ⟨decide_eq_true hne, fun j hj => decide_eq_false (fun y => y (h0 _ ?_))⟩
          exact List.mem_take_iff_getElem.mpr ⟨j, by omega, rfl⟩
        have := q _ (g.trans g3)
        rw [e] at this
        exact this
      · rw [List.take_add_one, List.getElem?_eq_getElem hi] at hx
        rcases List.mem_append.mp hx with e | e
        · exact h0 x e
        · rw [Option.toList_some, List.mem_singleton] at e
          rw [e]
          apply Classical.byContradiction
          intro hne
          apply z
          simp [hne]
    · obtain ⟨g, h0, y1, y2, rfl⟩ := h
      rw [List.length_map, List.take_length] at h0
      refine ⟨.ref a, rfl, a, _, rfl, .inr (g.sqT .none hs), ?_⟩
      rw [List.length_map]
      have e : headF r = r.length := by
        unfold headF
        exact List.findIdx_eq_length_of_false fun x hx => by rw [h0 x hx]; rfl
      have := q _ g
      rw [e] at this
      exact this
/-! ### plus_times -/
abbrev sPlus : Stmt := top 44
theorem scPlus : FnScope ["p", "row", "letter", "other", "one", "two"] ["p", "row", "letter", "other"] (defScope sPlus) := ⟨rfl, rfl, rfl, by decide +kernel, rfl, by decide +kernel, by decide +kernel⟩
def spPlus (K : PySem.W.Frag) : Sp := fun vs H Q _ => ∃ (p : Nat) (l : Int) (v u : V) (r o : List Int), vs = [.int p, v, .int l, u] ∧ 0 < p ∧ -1000 ≤ l ∧ l ≤ 1000 ∧ Tp K H v (rowD r) ∧ Tp K H u (rowD o) ∧ r.length = o.length ∧ r.length ≤ 1000 ∧ ∀ x H', Gr none H H' → Tp K H' x (rowD (plusF p r l o)) → Q x H'
theorem ok_plus {f : Addr} {fd : FuncData} {k : Nat} (F : Fun K "plus_times" "plus_times" sPlus f fd) (B : Bi mg) : FnOk P w K mg base CX0 (k + 1) f fd ["p", "row", "letter", "other"] (spPlus K) := by
  refine F.ok scPlus (fun vs H Q E h => ?_) (fun cdv A outer s H vs Q E hr h => ?_)
  · obtain ⟨p, l, v, u, r, o, rfl, _⟩ := h; rfl
  · obtain ⟨p, l, v, u, r, o, rfl, hp, hl0, hl1, hdr, hdo, hle, hlen, q⟩ := h
    obtain ⟨a, rfl, hs⟩ := hdr.ints
    obtain ⟨b, rfl, ht⟩ := hdo.ints
    refine ⟨_, pss_one (ps_ret (pe_callTy call_tuple_of (by rfl) B.tuple (by decide +kernel) (pa_cons (pe_lc (own := [("one", 4), ("two", 5)]) (g := gTup K 2 (gCons (gName 4) (gCons (gName 5) gNil))) (tt := tYes) rfl scPlus.nd (pi_zipA (by rfl) B.zip (pa_cons (pv 1) (pa_cons (pv 3) pa_nil)))
      (bk (N := ["p", "row", "letter", "other", "one", "two"]) (defScope sPlus) (by decide +kernel)) (fun _ _ _ _ _ => pg_tupK rfl (pgs_cons (pg_name (i := 4) scPlus.nd rfl (Or.inl rfl)) (pgs_cons (pg_name (i := 5) scPlus.nd rfl (Or.inl rfl)) pgs_nil))) (fun _ _ _ _ _ => pts_nil)
      (fun _ _ _ _ _ => pe_op op_mod (pe_op op_add (pv 4) (pe_op op_mul (pv 2) (pv 5))) (pv 0))) pa_nil))), ?_⟩
    refine ⟨.ref a, rfl, .ref b, rfl, a, b, _, _, rfl, .inr ⟨hs, ht, fun D hD => ?_⟩⟩
    refine lcZ (K := K) (as := plusF p r l o) (n := r.length) (by rw [List.length_map, List.length_map]; omega) (by unfold plusF; rw [List.length_zipWith]; omega) (by omega) hD hs ht (fun _ => true) (fun x => .int x) (fun i al x y T H1 Acc No h1 h2 h3 g hT ha _ => ?_) (fun H1 ys g e t => ?_)
    · rw [List.getElem?_map] at h2 h3
      obtain ⟨x', hx, rfl⟩ := Option.map_eq_some_iff.mp h2
      obtain ⟨y', hy, rfl⟩ := Option.map_eq_some_iff.mp h3
      have e1 : al = (x' + l * y') % p := by
        unfold plusF at h1
        rw [List.getElem?_zipWith, hx, hy] at h1
        exact (Option.some.inj h1).symm
      subst e1
      exact ⟨T, _, rfl, .inl (.inl upd_same), rfl, _, _, rfl, _, _, rfl, rfl, rfl, .int x', rfl, .int l, rfl, .int y', rfl, l, y', rfl, rfl, .inl ⟨by omega, by omega⟩, x', _, rfl, rfl, .int p, rfl, _, p, rfl, rfl, (by show (0 : Int) < p; omega), ha rfl _ _ (Gr.new hT) (.int _)⟩
    · rw [List.filter_eq_self.mpr (fun _ _ => rfl)] at t
      refine ⟨D, ys, rfl, .inl ⟨SqL.of e, fun z hz => q _ _ (g.trans (Gr.new hz)) (tp_tuple (D := D) hz t)⟩⟩
end
end Lk

namespace Lk
open PySem PySem.Spec PyProof.Rows L2 GxR RZ
theorem TpAll.drop {K : PySem.W.Frag} {H : Hp} : ∀ {vs : List V} {ds : List PyData} (k : Nat), TpAll K H vs ds → TpAll K H (vs.drop k) (ds.drop k)
  | _, _, 0, h => h
  | _, _, k + 1, .nil => .nil
  | _, _, k + 1, .cons _ t => TpAll.drop k t
theorem uS_len (n : Nat) (f : Nat → Bool) : (uS n f).length ≤ n := by
  rw [List.length_map]
  exact Nat.le_trans (List.length_filter_le _ _) (by rw [List.length_range]; exact Nat.le_refl _)
section
variable {P : Program} {w : World} {K : PySem.W.Frag} {mg : Str → Option Value} {base : Heap}
/-! ### left_of -/
abbrev sLeft : Stmt := top 45
theorem scLeft : FnScope ["p", "space", "row", "base", "letter"] ["p", "space", "row"] (defScope sLeft) := ⟨rfl, rfl, rfl, by decide +kernel, rfl, by decide +kernel, by decide +kernel⟩
structure SpcArgs (K : PySem.W.Frag) (H : Hp) (p n i : Nat) (f : Nat → Bool) (sv rv : V) : Prop where
  hF : isF (.int p) = true
  hn : n ≤ 12
  hi : i < n
  sp : Tp K H sv (matD (uS n f))
  rw : Tp K H rv (rowD (uRow n i))
def spLeft (K : PySem.W.Frag) : Sp := fun vs H Q _ => ∃ (p n i : Nat) (f : Nat → Bool) (sv rv : V), vs = [.int p, sv, rv] ∧ SpcArgs K H p n i f sv rv ∧ ∀ x H', Gr none H H' → Tp K H' x (rowD (if f i = true then zeroR n else uRow n i)) → Q x H'
theorem ok_left {f : Addr} {fd : FuncData} {k : Nat} (F : Fun K "left_of" "left_of" sLeft f fd) (B : Bi mg) (L1 : Cal P w K mg base CX0 1 "head_of" ["row"] (spHead K)) (L2 : Cal P w K mg base CX0 1 "plus_times" ["p", "row", "letter", "other"] (spPlus K)) : FnOk P w K mg base CX0 (k + 2) f fd ["p", "space", "row"] (spLeft K) := by
  obtain ⟨fH, fdH, okH, gH, kH, bH⟩ := L1.ex
  obtain ⟨fP, fdP, okP, gP, kP, bP⟩ := L2.ex
  refine F.ok scLeft (fun vs H Q E h => ?_) (fun cdv A outer s H vs Q E hr h => ?_)
  · obtain ⟨p, n, i, f, sv, rv, rfl, _⟩ := h; rfl
  · obtain ⟨p, n, i, f, sv, rv, rfl, ⟨hF, hn, hi, hsp, hrw⟩, q⟩ := h
    obtain ⟨hp2, hp13⟩ := isF_lo hF
    obtain ⟨a, xs, rfl, hs, hx⟩ := hsp.tuple
    have hxl := hx.length
    rw [List.length_map, List.length_map] at hxl
    refine ⟨_, pss_cons (ps_for PassesOwn.never rfl (pi_tup (pv 1)) (pg_name (i := 3) scLeft.nd rfl (Or.inl rfl))
        (pss_cons (ps_set (i := 4) scLeft.nd rfl (Or.inl rfl) (pe_ix ix_tup (pv 2) (pe_call okH (hr.mono (by omega)) (by rfl) gH kH bH .nil pass0 (pa_cons (pv 3) pa_nil)) (fun _ _ => rfl)))
        (pss_one (ps_if (pt_cmpR op_ne (pv 4) pe_int (nomark _)) (pss_one (ps_set (i := 2) scLeft.nd rfl (Or.inl rfl) (pe_call okP (hr.mono (by omega)) (by rfl) gP kP bP .nil pass0 (pa_cons (pv 0) (pa_cons (pv 2) (pa_cons (pe_op op_sub (pv 0) (pv 4)) (pa_cons (pv 3) pa_nil))))))) pss_nil))))
      (pss_one (ps_ret (pv 2))), ?_⟩
    refine ⟨.ref a, rfl, a, rfl, ⟨_, hs⟩, ?_⟩
    refine for_it (walk_tup (K := K) (a := a) (xs := xs)) (fun k σ H2 => Gr none H H2 ∧ ∃ (rv : V) (y3 y4 : Option V), σ = [some (.int p), some (.ref a), some rv, y3, y4] ∧ Tp K H2 rv (rowD (if i ∈ (js n f).take k then zeroR n else uRow n i)))
      ⟨Gr.refl, rv, none, none, rfl, by rw [List.take_zero, if_neg (by simp)]; exact hrw⟩ (fun i σ H2 _ h => h.1.sqT .none hs) (fun k x σ H0 H2 hk h y => ?_) fun σ H2 h => ?_
    · obtain ⟨g, rv, y3, y4, rfl, hrv⟩ := h
      obtain ⟨rfl, ex⟩ := y
      have hkj : k < (js n f).length := by omega
      obtain ⟨d, hd1, hd2⟩ := hx.get ex
      rw [List.getElem?_map, List.getElem?_map, List.getElem?_eq_getElem hkj] at hd1
      cases hd1
      have hjl := js_lt (List.getElem_mem hkj)
      have htk : (js n f).take (k + 1) = (js n f).take k ++ [(js n f)[k]] := by
        rw [List.take_add_one, List.getElem?_eq_getElem hkj]; rfl
      have hnot : (js n f)[k] ∉ (js n f).take k := fun z => by
        obtain ⟨k', hk', e⟩ := List.mem_take_iff_getElem.mp z
        have := (List.getElem_inj (h₀ := by omega) (h₁ := hkj) (js_nd n f)).mp e
        omega
      generalize (js n f)[k] = j at *
      obtain ⟨ra, erv, hra⟩ := hrv.ints
      subst erv
      refine ⟨.ref ra, rfl, x, rfl, x, uRow n j, rfl, hd2.gr0 g, by rw [uRow_len]; omega, fun H3 g3 => ?_⟩
      rw [head_unit hjl.1]
      have hra3 := g3.sqT .none hra
      by_cases hm : i ∈ (js n f).take k
      · rw [if_pos hm] at hra3 hrv
        refine ⟨ra, _, j, .int 0, rfl, rfl, hra3, atI_nat (j := j) (by rw [List.getElem?_map, zero_get hjl.1]; rfl), .int 0, rfl, rfl, _, rfl, ?_⟩
        refine ite2 (fun z => absurd z (by simp)) fun _ => ?_
        refine ⟨g.trans g3, .ref ra, _, _, rfl, ?_⟩
        rw [htk, if_pos (List.mem_append.mpr (.inl hm))]
        exact hrv.gr0 g3
      · rw [if_neg hm] at hra3 hrv
        by_cases hji : j = i
        · subst hji
          refine ⟨ra, _, j, .int 1, rfl, rfl, hra3, atI_nat (j := j) (by rw [List.getElem?_map, uRow_get hjl.1, if_pos rfl]; rfl), .int 1, rfl, rfl, _, rfl, ?_⟩
          refine ite2 (fun _ => ?_) fun z => absurd (by simp) z
          refine ⟨.int p, rfl, .ref ra, rfl, .int p, rfl, .int 1, rfl, p, 1, rfl, rfl, x, rfl, p, p - 1, .ref ra, x, uRow n j, uRow n j, rfl, by omega, by omega, by omega, hrv.gr0 g3, hd2.gr0 (g.trans g3), rfl, by rw [uRow_len]; omega, fun y H4 g4 ty => ?_⟩
          refine ⟨(g.trans g3).trans g4, y, _, _, rfl, ?_⟩
          rw [htk, if_pos (List.mem_append.mpr (.inr (by simp)))]
          rw [plus_zero (by omega)] at ty
          exact ty
        · refine ⟨ra, _, j, .int 0, rfl, rfl, hra3, atI_nat (j := j) (by rw [List.getElem?_map, uRow_get hjl.1, if_neg hji]; rfl), .int 0, rfl, rfl, _, rfl, ?_⟩
          refine ite2 (fun z => absurd z (by simp)) fun _ => ?_
          refine ⟨g.trans g3, .ref ra, _, _, rfl, ?_⟩
          rw [htk, if_neg (fun z => by
            rcases List.mem_append.mp z with z | z
            · exact hm z
            · exact hji (List.mem_singleton.mp z).symm)]
          exact hrv.gr0 g3
    · obtain ⟨g, rv, y3, y4, rfl, hrv⟩ := h
      rw [hxl, List.take_length] at hrv
      have e : (i ∈ js n f) ↔ f i = true := ⟨fun h => (js_lt h).2, fun h => List.mem_filter.mpr ⟨List.mem_range.mpr hi, h⟩⟩
      refine ⟨rv, rfl, q rv H2 g ?_⟩
      by_cases hf : f i = true
      · rw [if_pos (e.mpr hf)] at hrv
        rw [if_pos hf]; exact hrv
      · rw [if_neg (fun z => hf (e.mp z))] at hrv
        rw [if_neg hf]; exact hrv
/-! ### is_within -/
abbrev sWithin : Stmt := top 46
theorem scWithin : FnScope ["p", "space", "row"] ["p", "space", "row"] (defScope sWithin) := ⟨rfl, rfl, rfl, by decide +kernel, rfl, by decide +kernel, by decide +kernel⟩
def spWithin (K : PySem.W.Frag) : Sp := fun vs H Q _ => ∃ (p n i : Nat) (f : Nat → Bool) (sv rv : V), vs = [.int p, sv, rv] ∧ SpcArgs K H p n i f sv rv ∧ ∀ H', Gr none H H' → Q (.bl (f i)) H'
theorem ok_within {f : Addr} {fd : FuncData} {k : Nat} (F : Fun K "is_within" "is_within" sWithin f fd) (B : Bi mg) (L1 : Cal P w K mg base CX0 1 "head_of" ["row"] (spHead K)) (L2 : Cal P w K mg base CX0 2 "left_of" ["p", "space", "row"] (spLeft K)) : FnOk P w K mg base CX0 (k + 3) f fd ["p", "space", "row"] (spWithin K) := by
  obtain ⟨fH, fdH, okH, gH, kH, bH⟩ := L1.ex
  obtain ⟨fP, fdP, okP, gP, kP, bP⟩ := L2.ex
  refine F.ok scWithin (fun vs H Q E h => ?_) (fun cdv A outer s H vs Q E hr h => ?_)
  · obtain ⟨p, n, i, f, sv, rv, rfl, _⟩ := h; rfl
  · obtain ⟨p, n, i, f, sv, rv, rfl, hA, q⟩ := h
    obtain ⟨ra, erv, hra⟩ := hA.rw.ints
    refine ⟨_, pss_one (ps_ret (pe_cmpR op_eq (pe_call okH (hr.mono (by omega)) (by rfl) gH kH bH .nil pass0 (pa_cons (pe_call okP (hr.mono (by omega)) (by rfl) gP kP bP .nil pass0 (pa_cons (pv 0) (pa_cons (pv 1) (pa_cons (pv 2) pa_nil)))) pa_nil)) (lenS B (pv 2)) (nomark _))), ?_⟩
    refine ⟨.int p, rfl, sv, rfl, rv, rfl, p, n, i, f, sv, rv, rfl, hA, fun x H1 g1 tx => ?_⟩
    have hn := hA.hn
    refine ⟨x, _, rfl, tx, by split <;> simp [uRow_len] <;> omega, fun H2 g2 => ?_⟩
    subst erv
    refine ⟨.ref ra, rfl, ra, _, rfl, .inr ((g1.trans g2).sqT .none hra), rfl, ?_⟩
    have := q H2 (g1.trans g2)
    rw [List.length_map, uRow_len]
    by_cases hf : f i = true
    · rw [if_pos hf, head_zero, decide_eq_true rfl]
      rw [hf] at this
      exact this
    · rw [if_neg hf, head_unit hA.hi, decide_eq_false (fun z => by have := hA.hi; have := V.int.inj z; omega)]
      rw [Bool.not_eq_true] at hf
      rw [hf] at this
      exact this
end
end Lk

namespace Lk
open PySem PySem.Spec PyProof.Rows L2 GxR RZ
theorem cut_drop (xs : List V) (k : Nat) (h : k ≤ xs.length) : cutV xs (some (k : Int)) none = xs.drop k := by
  unfold cutV
  rw [show HT.sIx xs.length 0 (some (k : Int)) = min k xs.length from HT.sIx_nat _ 0 k, HT.sIx_none, Nat.min_eq_left h]
  exact List.take_of_length_le (by rw [List.length_drop]; exact Nat.le_refl _)
theorem js_congr {n : Nat} {f g : Nat → Bool} (h : ∀ x, x < n → f x = g x) : js n f = js n g := List.filter_congr fun x hx => h x (List.mem_range.mp hx)
theorem uS_congr {n : Nat} {f g : Nat → Bool} (h : ∀ x, x < n → f x = g x) : uS n f = uS n g := congrArg (List.map fun i => uRow n i) (js_congr h)
section
variable {P : Program} {w : World} {K : PySem.W.Frag} {mg : Str → Option Value} {base : Heap}
/-! ### with_row -/
abbrev sWith : Stmt := top 47
theorem scWith : FnScope ["p", "space", "row", "left", "head", "scale", "rows", "ahead", "letter", "base"] ["p", "space", "row"] (defScope sWith) := ⟨rfl, rfl, rfl, by decide +kernel, rfl, by decide +kernel, by decide +kernel⟩
def spWith (K : PySem.W.Frag) : Sp := fun vs H Q _ => ∃ (p n i : Nat) (f : Nat → Bool) (sv rv : V), vs = [.int p, sv, rv] ∧ SpcArgs K H p n i f sv rv ∧ f i = false ∧ ∀ x H', Gr none H H' → Tp K H' x (matD (uS n fun x => f x || decide (x = i))) → Q x H'
theorem ok_with {f : Addr} {fd : FuncData} {k : Nat} (F : Fun K "with_row" "with_row" sWith f fd) (B : Bi mg) (L1 : Cal P w K mg base CX0 1 "head_of" ["row"] (spHead K)) (L2 : Cal P w K mg base CX0 1 "plus_times" ["p", "row", "letter", "other"] (spPlus K)) (L3 : Cal P w K mg base CX0 2 "left_of" ["p", "space", "row"] (spLeft K))
    (L4 : Cal P w K mg base CX0 2 "inverse_of" ["p", "a"] spInv) : FnOk P w K mg base CX0 (k + 3) f fd ["p", "space", "row"] (spWith K) := by
  obtain ⟨fH, fdH, okH, gH, kH, bH⟩ := L1.ex
  obtain ⟨fP, fdP, okP, gP, kP, bP⟩ := L2.ex
  obtain ⟨fL, fdL, okL, gL, kL, bL⟩ := L3.ex
  obtain ⟨fI, fdI, okI, gI, kI, bI⟩ := L4.ex
  refine F.ok scWith (fun vs H Q E h => ?_) (fun cdv A outer s H vs Q E hr h => ?_)
  · obtain ⟨p, n, i, f, sv, rv, rfl, _⟩ := h; rfl
  · obtain ⟨p, n, i, f, sv, rv, rfl, hA, hf, q⟩ := h
    obtain ⟨hp2, hp13⟩ := isF_lo hA.hF
    have hn := hA.hn
    have hi := hA.hi
    refine ⟨_, pss_cons (ps_set (i := 3) scWith.nd rfl (Or.inr rfl) (pe_call okL (hr.mono (by omega)) (by rfl) gL kL bL .nil pass0 (pa_cons (pv 0) (pa_cons (pv 1) (pa_cons (pv 2) pa_nil)))))
      (pss_cons (ps_set (i := 4) scWith.nd rfl (Or.inr rfl) (pe_call okH (hr.mono (by omega)) (by rfl) gH kH bH .nil pass0 (pa_cons (pv 3) pa_nil)))
      (pss_cons (ps_if (pt_cmpR op_eq (pv 4) (lenS B (pv 3)) (nomark _)) (pss_one (ps_ret (pv 1))) pss_nil)
      (pss_cons (ps_set (i := 5) scWith.nd rfl (Or.inr rfl) (pe_call okI (hr.mono (by omega)) (by rfl) gI kI bI .nil pass0 (pa_cons (pv 0) (pa_cons (pe_ix ix_tup (pv 3) (pv 4) (fun _ _ => rfl)) pa_nil))))
      (pss_cons (ps_set (i := 3) scWith.nd rfl (Or.inr rfl) (pe_callTy call_tuple_of (by rfl) B.tuple (by decide +kernel) (pa_cons (pe_lc (own := [("letter", 8)]) (g := gName 8) (tt := tYes) rfl scWith.nd (pi_tup (pv 3))
          (bk (N := ["p", "space", "row", "left", "head", "scale", "rows", "ahead", "letter", "base"]) (defScope sWith) (by decide +kernel)) (fun _ _ _ _ _ => pg_name (i := 8) scWith.nd rfl (Or.inl rfl)) (fun _ _ _ _ _ => pts_nil)
          (fun _ _ _ _ _ => pe_op op_mod (pe_op op_mul (pv 8) (pv 5)) (pv 0))) pa_nil)))
      (pss_cons (ps_setLc (i := 6) (own := [("base", 9)]) (g := gName 9) (tt := tYes) rfl scWith.nd rfl rfl (sw_true rfl rfl rfl (by decide +kernel)) (pi_tup (pv 1))
          (bk (N := ["p", "space", "row", "left", "head", "scale", "rows", "ahead", "letter", "base"]) (defScope sWith) (by decide +kernel)) (fun _ _ _ _ _ => pg_name (i := 9) scWith.nd rfl (Or.inl rfl)) (fun _ _ _ _ _ => pts_nil)
          (fun _ _ _ _ _ => pe_call okP (hr.mono (by omega)) (by rfl) gP kP bP .nil pass0 (pa_cons (pv 0) (pa_cons (pv 9) (pa_cons (pe_op op_sub (pv 0) (pe_ix (ix_tupK (K := K)) (pv 9) (pv 4) (fun _ _ => rfl))) (pa_cons (pv 3) pa_nil))))))
      (pss_cons (ps_setLc (i := 7) (own := [("base", 9)]) (g := gName 9) rfl scWith.nd rfl rfl (sw_true rfl rfl rfl (by decide +kernel)) (pi_list (pv 6))
          (bk (N := ["p", "space", "row", "left", "head", "scale", "rows", "ahead", "letter", "base"]) (defScope sWith) (by decide +kernel)) (fun _ _ _ _ _ => pg_name (i := 9) scWith.nd rfl (Or.inl rfl))
          (fun _ _ _ _ _ => pts_one (pt_cmpR op_lt (pe_call okH (hr.mono (by omega)) (by rfl) gH kH bH .nil pass0 (pa_cons (pv 9) pa_nil)) (pv 4) (nomark _))) (fun _ _ _ _ _ => pv 9))
      (pss_one (ps_ret (pe_callTy call_tuple_of (by rfl) B.tuple (by decide +kernel) (pa_cons (pe_op op_cat (pe_op op_cat (pv 7) (pe_lst (pa_cons (pv 3) pa_nil))) (pe_slice sl_list (pv 6) (po_some (lenS B (pv 7))) po_none)) pa_nil)))))))))), ?_⟩
    refine ⟨.int p, rfl, sv, rfl, rv, rfl, p, n, i, f, sv, rv, rfl, hA, fun lv H1 g1 tl => ?_⟩
    rw [if_neg (by rw [hf]; decide)] at tl
    refine ⟨lv, rfl, lv, uRow n i, rfl, tl, by rw [uRow_len]; omega, fun H2 g2 => ?_⟩
    rw [head_unit hi]
    obtain ⟨la, elv, hla⟩ := (tl.gr0 g2).ints
    subst elv
    refine ⟨.int i, rfl, .ref la, rfl, la, _, rfl, .inr hla, rfl, _, rfl, ite2 (fun z => ?_) fun _ => ?_⟩
    · have := V.int.inj (of_decide_eq_true z)
      rw [List.length_map, uRow_len] at this
      omega
    refine ⟨.int p, rfl, .ref la, rfl, .int i, rfl, la, _, i, .int 1, rfl, rfl, hla, atI_nat (j := i) (by rw [List.getElem?_map, uRow_get hi, if_pos rfl]; rfl), p, rfl, hA.hF, ?_⟩
    -- left = tuple([..])
    refine ⟨.ref la, rfl, la, rfl, ⟨_, hla⟩, fun D hD => ?_⟩
    refine lcT (K := K) (as := uRow n i) (xs := (uRow n i).map V.int) (List.length_map (f := V.int)).symm (by rw [List.length_map, uRow_len]; omega) hD hla (fun _ => true) (fun l => .int (l * 1 % p)) (fun k al x H3 Acc No h1 h2 g3 ha _ => ?_) (fun H3 ys g3 e3 t3 => ?_)
    · rw [List.getElem?_map, h1] at h2
      cases h2
      have hb : 0 ≤ al ∧ al ≤ 1 := by
        have hk : k < n := by
          have := (List.getElem?_eq_some_iff.mp h1).1
          rw [uRow_len] at this
          exact this
        rw [uRow_get hk] at h1
        have := Option.some.inj h1
        split at this <;> omega
      exact ⟨rfl, .int al, rfl, .int 1, rfl, al, 1, rfl, rfl, .inl ⟨by omega, by omega⟩, .int p, rfl, _, p, rfl, rfl, (by show (0 : Int) < p; omega), ha rfl _ _ Gr.refl (.int _)⟩
    rw [List.filter_eq_self.mpr (fun _ _ => rfl)] at t3
    refine ⟨D, ys, rfl, .inl ⟨SqL.of e3, fun l2 hl2 => ?_⟩⟩
    have tl2 : Tp K (upd H3 l2 (.tup ys)) (.ref l2) (rowD (uRow n i)) := by
      have := tp_tuple (D := D) hl2 t3
      have e := scale_same (p := p) (by omega) n i
      have e2 : (uRow n i).map (fun l => PyData.int (l * 1 % p)) = (uRow n i).map PyData.int := by
        have := congrArg (List.map PyData.int) e
        rw [List.map_map] at this
        exact this
      rw [e2] at this
      exact this
    have g4 : Gr none H (upd H3 l2 (.tup ys)) := ((g1.trans g2).trans g3).trans (Gr.new hl2)
    generalize upd H3 l2 (.tup ys) = H4 at *
    -- rows
    have hsp4 := hA.sp.gr0 g4
    obtain ⟨sa, xs4, rfl, hsq, hst⟩ := hsp4.tuple
    have hsl := hst.length
    rw [List.length_map, List.length_map] at hsl
    have hjl : (js n f).length ≤ n := by have := uS_len n f; rw [List.length_map] at this; exact this
    refine ⟨.ref sa, rfl, sa, rfl, ⟨_, hsq⟩, fun D2 hD2 => ?_⟩
    refine lcT (K := K) (as := js n f) hsl.symm (by omega) hD2 hsq (fun _ => true) (fun j => rowD (uRow n j)) (fun k j x H5 Acc No h1 h2 g5 ha _ => ?_) (fun H5 ys2 g5 e5 t5 => ?_)
    · obtain ⟨d, hd1, hd2⟩ := hst.get h2
      rw [List.getElem?_map, List.getElem?_map, h1] at hd1
      cases hd1
      have hd3 := hd2.gr0 g5
      have hj := js_lt (List.mem_of_getElem? h1)
      have hji : j ≠ i := fun e => by rw [e, hf] at hj; exact Bool.noConfusion hj.2
      obtain ⟨xa, rfl, hxa⟩ := hd3.ints
      refine ⟨rfl, .int p, rfl, .ref xa, rfl, .int p, rfl, .ref xa, rfl, .int i, rfl, xa, _, i, .int 0, rfl, rfl, hxa, atI_nat (j := i) (by rw [List.getElem?_map, uRow_get hi, if_neg (fun e => hji e.symm)]; rfl), p, 0, rfl, rfl, .ref l2, rfl, ?_⟩
      refine ⟨p, p - 0, .ref xa, .ref l2, uRow n j, uRow n i, rfl, by omega, by omega, by omega, hd3, tl2.gr0 g5, by rw [uRow_len, uRow_len], by rw [uRow_len]; omega, fun y H6 g6 ty => ?_⟩
      rw [Int.sub_zero, plus_same (by omega)] at ty
      exact ha rfl _ _ g6 ty
    rw [List.filter_eq_self.mpr (fun _ _ => rfl)] at t5
    have hyl := t5.length
    rw [List.length_map] at hyl
    -- ahead
    refine ⟨.ref D2, rfl, D2, rfl, ⟨_, SqL.of e5⟩, fun D3 hD3 => ?_⟩
    refine lcL (K := K) (as := js n f) hyl.symm (by omega) hD3 (SqL.of e5) (fun j => decide (j < i)) (fun j => rowD (uRow n j)) (fun k j x H6 Acc No h1 h2 g6 ha hno => ?_) (fun H6 ys3 g6 e6 t6 => ?_)
    · obtain ⟨d, hd1, hd2⟩ := t5.get h2
      rw [List.getElem?_map, h1] at hd1
      cases hd1
      have hj := js_lt (List.mem_of_getElem? h1)
      refine ⟨rfl, x, rfl, x, uRow n j, rfl, hd2.gr0 g6, by rw [uRow_len]; omega, fun H7 g7 => ?_⟩
      rw [head_unit hj.1]
      refine ⟨.int i, rfl, _, _, rfl, rfl, _, rfl, ite2 (fun z => ?_) (fun z => ?_)⟩
      · exact ⟨x, rfl, ha (decide_eq_true (by have := of_decide_eq_true z; omega)) _ _ g7 (hd2.gr0 (g6.trans g7))⟩
      · exact hno (decide_eq_false (fun y => z (decide_eq_true (by omega)))) _ g7
    -- the answer
    have hyl3 := t6.length
    rw [List.length_map] at hyl3
    have hfl : ((js n f).filter fun j => decide (j < i)).length ≤ (js n f).length := List.length_filter_le _ _
    have e56 := g6.lst e5
    refine ⟨.ref D3, rfl, .ref l2, rfl, by show 1 ≤ sizeLine; decide, fun l3 hl3 => ?_⟩
    have g7 : Gr none H6 (upd H6 l3 (.lst [.ref l2])) := Gr.new hl3
    refine ⟨D3, l3, _, _, rfl, rfl, g7.lst e6, upd_same, Nat.le_trans (show ys3.length + 1 ≤ 1000 by omega) (by decide), fun l4 hl4 => ?_⟩
    have g8 : Gr none (upd H6 l3 (.lst [.ref l2])) (upd (upd H6 l3 (.lst [.ref l2])) l4 (.lst (ys3 ++ [.ref l2]))) := Gr.new hl4
    have h4s : (upd (upd H6 l3 (.lst [.ref l2])) l4 (.lst (ys3 ++ [.ref l2]))) l4 = some (.lst (ys3 ++ [.ref l2])) := upd_same
    have g78 := g7.trans g8
    generalize upd (upd H6 l3 (.lst [.ref l2])) l4 (.lst (ys3 ++ [.ref l2])) = H8 at *
    refine ⟨.ref D2, rfl, .ref D3, rfl, D3, _, rfl, .inl (SqL.of (g78.lst e6)), _, rfl, D2, ys2, rfl, SqL.of (g78.lst e56), fun l5 hl5 => ?_⟩
    rw [cut_drop ys2 ys3.length (by omega)]
    have g9 : Gr none H8 (upd H8 l5 (.lst (ys2.drop ys3.length))) := Gr.new hl5
    refine ⟨l4, l5, _, _, rfl, rfl, g9.lst h4s, upd_same, Nat.le_trans (show (ys3 ++ [V.ref l2]).length + (ys2.drop ys3.length).length ≤ 1000 by
      rw [List.length_append, List.length_drop]; show ys3.length + 1 + _ ≤ _; omega) (by decide), fun l6 hl6 => ?_⟩
    have gA := Gr.new (x := none) (o := .lst ((ys3 ++ [.ref l2]) ++ ys2.drop ys3.length)) hl6
    refine ⟨l6, _, rfl, .inl ⟨SqL.of upd_same, fun l7 hl7 => ?_⟩⟩
    have gB := Gr.new (x := none) (o := .tup ((ys3 ++ [.ref l2]) ++ ys2.drop ys3.length)) hl7
    have gT := (g78.trans g9).trans (gA.trans gB)
    refine q _ _ ((g4.trans g5).trans (g6.trans gT)) (.tup (.inl (.inl upd_same)) ?_)
    rw [List.map_map, js_put hi hf, List.map_append, List.map_append, List.map_drop, ← hyl3]
    exact ((t6.gr0 gT).append (.cons (tl2.gr0 (g5.trans (g6.trans gT))) .nil)).append (TpAll.drop _ (t5.gr0 (g6.trans gT)))
/-! ### space_of -/
abbrev sSpace : Stmt := top 48
theorem scSpace : FnScope ["p", "rows", "space", "row"] ["p", "rows"] (defScope sSpace) := ⟨rfl, rfl, rfl, by decide +kernel, rfl, by decide +kernel, by decide +kernel⟩
def spSpace (K : PySem.W.Frag) : Sp := fun vs H Q _ => ∃ (p n : Nat) (f : Nat → Bool) (rv : V), vs = [.int p, rv] ∧ isF (.int p) = true ∧ n ≤ 12 ∧ Tp K H rv (matD (uS n f)) ∧ ∀ x H', Gr none H H' → Tp K H' x (matD (uS n f)) → Q x H'
theorem ok_space {f : Addr} {fd : FuncData} {k : Nat} (F : Fun K "space_of" "space_of" sSpace f fd) (B : Bi mg) (L1 : Cal P w K mg base CX0 3 "with_row" ["p", "space", "row"] (spWith K)) : FnOk P w K mg base CX0 (k + 4) f fd ["p", "rows"] (spSpace K) := by
  obtain ⟨fH, fdH, okH, gH, kH, bH⟩ := L1.ex
  refine F.ok scSpace (fun vs H Q E h => ?_) (fun cdv A outer s H vs Q E hr h => ?_)
  · obtain ⟨p, n, f, rv, rfl, _⟩ := h; rfl
  · obtain ⟨p, n, f, rv, rfl, hF, hn, hd, q⟩ := h
    obtain ⟨a, xs, rfl, hs, hx⟩ := hd.tuple
    have hxl := hx.length
    rw [List.length_map, List.length_map] at hxl
    refine ⟨_, pss_cons (ps_set (i := 2) scSpace.nd rfl (Or.inl rfl) (pe_tup pa_nil))
      (pss_cons (ps_for PassesOwn.never rfl (pi_tup (pv 1)) (pg_name (i := 3) scSpace.nd rfl (Or.inl rfl))
        (pss_one (ps_set (i := 2) scSpace.nd rfl (Or.inl rfl) (pe_call okH (hr.mono (by omega)) (by rfl) gH kH bH .nil pass0 (pa_cons (pv 0) (pa_cons (pv 2) (pa_cons (pv 3) pa_nil)))))))
      (pss_one (ps_ret (pv 2)))), ?_⟩
    refine ⟨Nat.zero_le _, fun t ht => ?_⟩
    have g0 : Gr none H (upd H t (.tup [])) := Gr.new ht
    have e0 : js n (fun x => decide (x ∈ (js n f).take 0)) = [] := List.filter_eq_nil_iff.mpr fun x _ => by rw [List.take_zero]; simp
    refine ⟨.ref a, rfl, a, rfl, ⟨_, g0.sqT .none hs⟩, ?_⟩
    refine for_it (walk_tup (K := K) (a := a) (xs := xs)) (fun k σ H2 => Gr none H H2 ∧ ∃ (sv : V) (y3 : Option V), σ = [some (.int p), some (.ref a), some sv, y3] ∧ Tp K H2 sv (matD (uS n fun x => decide (x ∈ (js n f).take k))))
      ⟨g0, .ref t, none, rfl, .tup (.inl (.inl upd_same)) (by rw [List.map_map, e0]; exact .nil)⟩ (fun i σ H2 _ h => h.1.sqT .none hs) (fun k x σ H0 H2 hk h y => ?_) fun σ H2 h => ?_
    · obtain ⟨g, sv, y3, rfl, hsv⟩ := h
      obtain ⟨rfl, ex⟩ := y
      have hkj : k < (js n f).length := by omega
      obtain ⟨d, hd1, hd2⟩ := hx.get ex
      rw [List.getElem?_map, List.getElem?_map, List.getElem?_eq_getElem hkj] at hd1
      cases hd1
      have hjl := js_lt (List.getElem_mem hkj)
      have htk : (js n f).take (k + 1) = (js n f).take k ++ [(js n f)[k]] := by
        rw [List.take_add_one, List.getElem?_eq_getElem hkj]; rfl
      have hnot : (js n f)[k] ∉ (js n f).take k := fun z => by
        obtain ⟨k', hk', e⟩ := List.mem_take_iff_getElem.mp z
        have := (List.getElem_inj (h₀ := by omega) (h₁ := hkj) (js_nd n f)).mp e
        omega
      generalize (js n f)[k] = j at *
      refine ⟨.int p, rfl, sv, rfl, x, rfl, p, n, j, _, sv, x, rfl, ⟨hF, hn, hjl.1, hsv, hd2.gr0 g⟩, decide_eq_false hnot, fun y H3 g3 ty => ⟨g.trans g3, y, _, rfl, ?_⟩⟩
      have e : uS n (fun x => decide (x ∈ (js n f).take k) || decide (x = j)) = uS n (fun x => decide (x ∈ (js n f).take (k + 1))) := uS_congr fun x _ => by
        rw [htk, Bool.eq_iff_iff]
        simp
      rw [e] at ty
      exact ty
    · obtain ⟨g, sv, y3, rfl, hsv⟩ := h
      have e : uS n (fun x => decide (x ∈ (js n f).take xs.length)) = uS n f := uS_congr fun x hx2 => by
        rw [hxl, List.take_length, Bool.eq_iff_iff, decide_eq_true_eq]
        exact ⟨fun h => (js_lt h).2, fun h => List.mem_filter.mpr ⟨List.mem_range.mpr hx2, h⟩⟩
      rw [e] at hsv
      exact ⟨sv, rfl, q sv H2 g hsv⟩
end
end Lk

namespace Lk
open PySem PySem.Spec PyProof.Rows L2 GxR RZ
section
variable {P : Program} {w : World} {K : PySem.W.Frag} {mg : Str → Option Value} {base : Heap}
theorem AudAt.fp {C a : Addr} {H : Hp} {p n : Nat} {ls : List Lis} (h : AudAt K C H a p n ls) : ∃ C dx fs, H a = some (.ins C dx fs) ∧ Cls K C ∧ NoAttr K C "p" ∧ fs.lookup ("p" : Str) = some (.int p) := by
  obtain ⟨c1, c2, c3, c4, dx, fs, lv, e1, e2, e3, e4, t⟩ := h
  exact ⟨_, _, _, e1, c1, c2, e2⟩
theorem AudAt.fs {C a : Addr} {H : Hp} {p n : Nat} {ls : List Lis} (h : AudAt K C H a p n ls) : ∃ C dx fs, H a = some (.ins C dx fs) ∧ Cls K C ∧ NoAttr K C "size" ∧ fs.lookup ("size" : Str) = some (.int n) := by
  obtain ⟨c1, c2, c3, c4, dx, fs, lv, e1, e2, e3, e4, t⟩ := h
  exact ⟨_, _, _, e1, c1, c3, e3⟩
theorem AudAt.fl {C a : Addr} {H : Hp} {p n : Nat} {arcs : List (Int × Int)} (h : AudAt K C H a p n (lsOf n arcs)) : ∃ C dx fs la lx, H a = some (.ins C dx fs) ∧ Cls K C ∧ NoAttr K C "listeners" ∧ fs.lookup ("listeners" : Str) = some (.ref la) ∧ SqT K H la lx ∧ lx.length = n ∧
    ∀ i : Nat, i < n → ∃ b kb wb wx kx, lx[i]? = some (.ref b) ∧ SqT K H b [.ref kb, .ref wb] ∧ SqT K H wb [.ref wx] ∧ Tp K H (.ref wx) (rowD (uRow n i)) ∧ SqT K H kb kx ∧ TpAll K H kx ((knowsI arcs i).map fun j => rowD (unitR n [j])) := by
  obtain ⟨c1, c2, c3, c4, dx, fs, lv, e1, e2, e3, e4, t⟩ := h
  obtain ⟨la, lx, rfl, hs, hx⟩ := t.tuple
  have hl := hx.length
  unfold lsOf at hl
  rw [List.length_map, List.length_map, List.length_range] at hl
  refine ⟨_, _, _, la, lx, e1, c1, c4, e4, hs, hl, fun i hi => ?_⟩
  obtain ⟨d, hd1, hd2⟩ := hx.get (List.getElem?_eq_getElem (show i < lx.length by omega))
  unfold lsOf at hd1
  rw [List.getElem?_map, List.getElem?_map, List.getElem?_range hi] at hd1
  cases hd1
  obtain ⟨b, bx, eb, hb, hbx⟩ := hd2.tuple
  cases hbx with
  | cons h1 r1 =>
    cases r1 with
    | cons h2 r2 =>
      cases r2
      obtain ⟨kb, kx, rfl, hk, hkx⟩ := h1.tuple
      obtain ⟨wb, wx, rfl, hw, hwx⟩ := h2.tuple
      cases hwx with
      | cons h3 r3 =>
        cases r3
        obtain ⟨wa, ew, hw2⟩ := h3.ints
        subst ew
        refine ⟨b, kb, wb, wa, kx, by rw [← eb]; exact List.getElem?_eq_getElem _, hb, hw, h3, hk, ?_⟩
        rw [List.map_map] at hkx
        exact hkx
/-! ### is_listener of tellings, _is_step -/
abbrev sLisT : Stmt := top 50
abbrev sStep : Stmt := top 53
theorem scLisT : FnScope ["audience", "value"] ["audience", "value"] (defScope sLisT) := ⟨rfl, rfl, rfl, by decide +kernel, rfl, by decide +kernel, by decide +kernel⟩
theorem scStep : FnScope ["audience", "step", "number"] ["audience", "step"] (defScope sStep) := ⟨rfl, rfl, rfl, by decide +kernel, rfl, by decide +kernel, by decide +kernel⟩
def spLisT (K : PySem.W.Frag) (C : Addr) : Sp := fun vs H Q _ => ∃ (a : Addr) (i : Int) (p n : Nat) (arcs : List (Int × Int)), vs = [.ref a, .int i] ∧ AudAt K C H a p n (lsOf n arcs) ∧ 0 ≤ i ∧ i < n ∧ Q (.bl true) H
theorem ok_lisT {f C : Addr} {fd : FuncData} {k : Nat} (F : Fun K "is_listener" "is_listener" sLisT f fd) (B : Bi mg) : FnOk P w K mg base CX0 (k + 1) f fd ["audience", "value"] (spLisT K C) := by
  refine F.ok scLisT (fun vs H Q E h => ?_) (fun cdv A outer s H vs Q E hr h => ?_)
  · obtain ⟨a, i, p, n, arcs, rfl, _⟩ := h; rfl
  · obtain ⟨a, i, p, n, arcs, rfl, hA, h0, h1, q⟩ := h
    refine ⟨_, pss_one (ps_ret (pe_and (isi_int B (pv 1)) (pe_and (pe_not (isi_bool B (pv 1))) (pe_one (pe_chain op_le op_lt pe_int (pv 1) (lenS B (pe_fld (pv 0) rfl))))))), ?_⟩
    obtain ⟨C1, dx, fs, la, lx, e1, e2, e3, e4, hs, hl, _⟩ := hA.fl
    refine ⟨.int i, rfl, .int i, .int i, rfl, .int i, true, rfl, iteT ⟨.int i, rfl, .int i, .int i, rfl, .int i, false, rfl, true, rfl, iteT ⟨.int i, rfl, 0, i, rfl, rfl, _, rfl, ite2 (fun _ => ?_) fun z => absurd (decide_eq_true h0) z⟩⟩⟩
    refine ⟨.ref a, rfl, a, C1, dx, fs, .ref la, rfl, e1, e2, e3, e4, la, lx, rfl, .inr hs, i, _, rfl, rfl, ?_⟩
    rw [hl]
    rw [← show V.bl (decide (i < (n : Int))) = V.bl true by rw [decide_eq_true h1]] at q
    exact q
def spStep (K : PySem.W.Frag) (C : Addr) : Sp := fun vs H Q _ => ∃ (a : Addr) (sv : V) (x : Int) (p n : Nat) (arcs : List (Int × Int)), vs = [.ref a, sv] ∧ AudAt K C H a p n (lsOf n arcs) ∧ Tp K H sv (rowD [x, 0]) ∧ 0 ≤ x ∧ x < n ∧ Q (.bl true) H
theorem ok_step {f C : Addr} {fd : FuncData} {k : Nat} (F : Fun K "_is_step" "_is_step" sStep f fd) (B : Bi mg) (L1 : Cal P w K mg base CX0 1 "is_listener_tellings" ["audience", "value"] (spLisT K C)) : FnOk P w K mg base CX0 (k + 2) f fd ["audience", "step"] (spStep K C) := by
  obtain ⟨fL, fdL, okL, gL, kL, bL⟩ := L1.ex
  refine F.ok scStep (fun vs H Q E h => ?_) (fun cdv A outer s H vs Q E hr h => ?_)
  · obtain ⟨a, sv, x, p, n, arcs, rfl, _⟩ := h; rfl
  · obtain ⟨a, sv, x, p, n, arcs, rfl, hA, hd, h0, h1, q⟩ := h
    obtain ⟨b, rfl, hb⟩ := hd.ints
    refine ⟨_, pss_cons (ps_if (PW.pt (pw_or (pt_not (pt_val (isi_tup B (pv 1)))) (pw_or (pt_cmpR op_ne (lenS B (pv 1)) pe_int (nomark _)) (pw_or1 (pt_not (pt_val (pe_call okL (hr.mono (by omega)) (by rfl) gL kL bL .nil pass0 (pa_cons (pv 0) (pa_cons (pe_ix ix_tup (pv 1) pe_int (fun _ _ => rfl)) pa_nil))))))))) (pss_one (ps_ret pe_bl)) pss_nil)
      (pss_cons (ps_set (i := 2) scStep.nd rfl (Or.inl rfl) (pe_ix ix_tup (pv 1) pe_int (fun _ _ => rfl)))
      (pss_cons (ps_if (PW.pt (pw_or (pt_not (pt_val (isi_int B (pv 2)))) (pw_or1 (pt_val (isi_bool B (pv 2)))))) (pss_one (ps_ret pe_bl)) pss_nil)
      (pss_one (ps_ret (pe_chain op_le op_lt pe_int (pv 2) (lenS B (pe_ix ix_tup (pe_ix ix_tup (pe_fld (pv 0) rfl) (pe_ix ix_tup (pv 1) pe_int (fun _ _ => rfl)) (fun _ _ => rfl)) pe_int (fun _ _ => rfl)))))))), ?_⟩
    have i0 : atI ([x, 0].map V.int) 0 = some (.int x) := atI_nat (j := 0) rfl
    have i1 : atI ([x, 0].map V.int) 1 = some (.int 0) := atI_nat (j := 1) rfl
    refine ⟨.ref b, rfl, .ref b, _, rfl, hd.dp, _, rfl, iteF ?_⟩
    refine ⟨.ref b, rfl, b, _, rfl, .inr hb, rfl, _, rfl, iteF ?_⟩
    refine ⟨.ref a, rfl, .ref b, rfl, b, _, 0, .int x, rfl, rfl, hb, i0, a, x, p, n, arcs, rfl, hA, h0, h1, true, rfl, iteF ?_⟩
    refine ⟨.ref b, rfl, b, _, 1, .int 0, rfl, rfl, hb, i1, ?_⟩
    refine ⟨.int 0, rfl, .int 0, .int 0, rfl, .int 0, true, rfl, iteF ⟨.int 0, rfl, .int 0, .int 0, rfl, .int 0, false, rfl, iteF ?_⟩⟩
    obtain ⟨C1, dx, fs, la, lx, e1, e2, e3, e4, hs, hl, hget⟩ := hA.fl
    obtain ⟨j, rfl⟩ := Int.eq_ofNat_of_zero_le h0
    obtain ⟨bb, kb, wb, wx, kx, f1, f2, f3, f4, f5, f6⟩ := hget j (by omega)
    refine ⟨.int 0, rfl, 0, 0, rfl, rfl, true, rfl, iteT ?_⟩
    refine ⟨.ref a, rfl, a, C1, dx, fs, .ref la, rfl, e1, e2, e3, e4, .ref b, rfl, b, _, 0, .int j, rfl, rfl, hb, i0, la, lx, j, .ref bb, rfl, rfl, hs, atI_nat (j := j) f1, bb, _, 1, .ref wb, rfl, rfl, f2, atI_nat (j := 1) rfl, wb, _, rfl, .inr f3, 0, _, rfl, rfl, ?_⟩
    exact q
/-! ### ladder_holds -/
abbrev sHolds : Stmt := top 54
theorem scHolds : FnScope ["audience", "ladder", "outside", "steps", "space", "step", "knows", "wants", "row"] ["audience", "ladder"] (defScope sHolds) := ⟨rfl, rfl, rfl, by decide +kernel, rfl, by decide +kernel, by decide +kernel⟩
def spHolds (K : PySem.W.Frag) (C T1 T2 : Addr) : Sp := fun vs H Q _ => ∃ (a : Addr) (lv : V) (p n : Nat) (arcs : List (Int × Int)) (l st : List Int), vs = [.ref a, lv] ∧ AudAt K C H a p n (lsOf n arcs) ∧ isF (.int p) = true ∧ n ≤ 9 ∧ ArcsOk n arcs ∧ Tp K H lv (ladD n l st) ∧
  takeF arcs l.length l = some st ∧ (∀ i ∈ l, 0 ≤ i ∧ i < (n : Int)) ∧ TabG H T1 ∧ TabG H T2 ∧ ∀ H', Gr none H H' → Q (.bl true) H'
theorem knows_in {n : Nat} {arcs : List (Int × Int)} (h : ArcsOk n arcs) {i j : Int} (hj : j ∈ knowsI arcs i) : 0 ≤ j ∧ j < n := by
  unfold knowsI at hj
  obtain ⟨p, hp, rfl⟩ := List.mem_map.mp hj
  have := h.mem p (List.mem_filter.mp hp).1
  exact ⟨this.2.2.1, this.2.2.2.1⟩
theorem ok_holds {f C T1 T2 : Addr} {fd : FuncData} {k : Nat} (F : Fun K "ladder_holds" "ladder_holds" sHolds f fd) (B : Bi mg) (L1 : Cal P w K mg base CX0 5 "is_matrix" ["value", "p", "columns"] (spMat K T1 T2)) (L2 : Cal P w K mg base CX0 4 "space_of" ["p", "rows"] (spSpace K))
    (L3 : Cal P w K mg base CX0 2 "_is_step" ["audience", "step"] (spStep K C)) (L4 : Cal P w K mg base CX0 3 "is_within" ["p", "space", "row"] (spWithin K)) (L5 : Cal P w K mg base CX0 3 "with_row" ["p", "space", "row"] (spWith K)) : FnOk P w K mg base CX0 (k + 6) f fd ["audience", "ladder"] (spHolds K C T1 T2) := by
  obtain ⟨fM, fdM, okM, gM, kM, bM⟩ := L1.ex
  obtain ⟨fS, fdS, okS, gS, kS, bS⟩ := L2.ex
  obtain ⟨fT, fdT, okT, gT, kT, bT⟩ := L3.ex
  obtain ⟨fW, fdW, okW, gW, kW, bW⟩ := L4.ex
  obtain ⟨fR, fdR, okR, gR, kR, bR⟩ := L5.ex
  refine F.ok scHolds (fun vs H Q E h => ?_) (fun cdv A outer s H vs Q E hr h => ?_)
  · obtain ⟨a, lv, p, n, arcs, l, st, rfl, _⟩ := h; rfl
  · obtain ⟨a, lv, p, n, arcs, l, st, rfl, hA, hF, h9, hok, hd, htk, hin, t1, t2, q⟩ := h
    refine ⟨_, pss_cons (ps_if (PW.pt (pw_or (pt_not (pt_val (isi_tup B (pv 1)))) (pw_or1 (pt_cmpR op_ne (lenS B (pv 1)) pe_int (nomark _))))) (pss_one (ps_ret pe_bl)) pss_nil)
      (pss_cons (ps_asg (pv 1) (pg_tup (by rfl) (pgs_cons (pg_name (i := 2) scHolds.nd rfl (Or.inl rfl)) (pgs_cons (pg_name (i := 3) scHolds.nd rfl (Or.inl rfl)) pgs_nil))))
      (pss_cons (ps_if (PW.pt (pw_or (pt_not (pt_val (pe_call okM (hr.mono (by omega)) (by rfl) gM kM bM .nil pass0 (pa_cons (pv 2) (pa_cons (pe_fld (pv 0) rfl) (pa_cons (pe_fld (pv 0) rfl) pa_nil)))))) (pw_or1 (pt_not (pt_val (isi_tup B (pv 3))))))) (pss_one (ps_ret pe_bl)) pss_nil)
      (pss_cons (ps_set (i := 4) scHolds.nd rfl (Or.inr rfl) (pe_call okS (hr.mono (by omega)) (by rfl) gS kS bS .nil pass0 (pa_cons (pe_fld (pv 0) rfl) (pa_cons (pv 2) pa_nil))))
      (pss_cons (ps_for PassesOwn.never rfl (pi_tup (pv 3)) (pg_name (i := 5) scHolds.nd rfl (Or.inl rfl))
        (pss_cons (ps_if (pt_not (pt_val (pe_call okT (hr.mono (by omega)) (by rfl) gT kT bT .nil pass0 (pa_cons (pv 0) (pa_cons (pv 5) pa_nil))))) (pss_one (ps_ret pe_bl)) pss_nil)
        (pss_cons (ps_asg (pe_ix ix_tup (pe_fld (pv 0) rfl) (pe_ix ix_tup (pv 5) pe_int (fun _ _ => rfl)) (fun _ _ => rfl)) (pg_tup (by rfl) (pgs_cons (pg_name (i := 6) scHolds.nd rfl (Or.inl rfl)) (pgs_cons (pg_name (i := 7) scHolds.nd rfl (Or.inl rfl)) pgs_nil))))
        (pss_cons (ps_if (pt_cmpR (op_neD hr.units) (pe_lc (own := [("row", 8)]) (g := gName 8) rfl scHolds.nd (pi_tup (pv 6))
            (bk (N := ["audience", "ladder", "outside", "steps", "space", "step", "knows", "wants", "row"]) (defScope sHolds) (by decide +kernel)) (fun _ _ _ _ _ => pg_name (i := 8) scHolds.nd rfl (Or.inl rfl))
            (fun _ _ _ _ _ => pts_one (pt_not (pt_val (pe_call okW (hr.mono (by omega)) (by rfl) gW kW bW .nil pass0 (pa_cons (pe_fldK (K := K) (pv 0)) (pa_cons (pv 4) (pa_cons (pv 8) pa_nil))))))) (fun _ _ _ _ _ => pv 8)) (pe_lst pa_nil) (nomark _)) (pss_one (ps_ret pe_bl)) pss_nil)
        (pss_cons (ps_if (pt_val (pe_call okW (hr.mono (by omega)) (by rfl) gW kW bW .nil pass0 (pa_cons (pe_fld (pv 0) rfl) (pa_cons (pv 4) (pa_cons (pe_ix ix_tup (pv 7) (pe_ix ix_tup (pv 5) pe_int (fun _ _ => rfl)) (fun _ _ => rfl)) pa_nil))))) (pss_one (ps_ret pe_bl)) pss_nil)
        (pss_one (ps_set (i := 4) scHolds.nd rfl (Or.inr rfl) (pe_call okR (hr.mono (by omega)) (by rfl) gR kR bR .nil pass0 (pa_cons (pe_fld (pv 0) rfl) (pa_cons (pv 4) (pa_cons (pe_ix ix_tup (pv 7) (pe_ix ix_tup (pv 5) pe_int (fun _ _ => rfl)) (fun _ _ => rfl)) pa_nil)))))))))))
      (pss_one (ps_ret pe_bl)))))), ?_⟩
    obtain ⟨hp2, hp13⟩ := isF_lo hF
    obtain ⟨lb, lxs, rfl, hls, hlx⟩ := hd.tuple
    cases hlx with
    | @cons ov lxs2 d1 ds1 tov r1 =>
    cases r1 with
    | @cons stv lxs3 d2 ds2 tst r2 =>
    cases r2
    obtain ⟨sb, sx, rfl, hss, hsx⟩ := tst.tuple
    have hsl := hsx.length
    rw [List.length_map] at hsl
    obtain ⟨hstl, hstm⟩ := take_mem _ _ _ htk
    have hgood := take_good _ _ _ htk
    refine ⟨.ref lb, rfl, .ref lb, _, rfl, hd.dp, _, rfl, iteF ?_⟩
    refine ⟨.ref lb, rfl, lb, _, rfl, .inr hls, rfl, _, rfl, iteF ?_⟩
    refine ⟨.ref lb, rfl, lb, _, rfl, hls, rfl, _, _, rfl, _, _, rfl, rfl, ?_⟩
    obtain ⟨C1, dx1, fs1, a1, a2, a3, a4⟩ := hA.fp
    obtain ⟨C2, dx2, fs2, b1, b2, b3, b4⟩ := hA.fs
    refine ⟨ov, rfl, .ref a, rfl, a, C1, dx1, fs1, .int p, rfl, a1, a2, a3, a4, .ref a, rfl, a, C2, dx2, fs2, .int n, rfl, b1, b2, b3, b4, ov, outR n l, p, n, rfl, t1, t2, tov, ?_, fun H1 g1 => ?_⟩
    · intro r hr2
      obtain ⟨i, _, rfl⟩ := List.mem_map.mp hr2
      exact unit_ok hp2 _
    refine ⟨true, rfl, iteF ⟨.ref sb, rfl, .ref sb, _, rfl, (tst.gr0 g1).dp, _, rfl, iteF ?_⟩⟩
    have hA1 := hA.gr0 g1
    obtain ⟨C1, dx1, fs1, a1, a2, a3, a4⟩ := hA1.fp
    refine ⟨.ref a, rfl, a, C1, dx1, fs1, .int p, rfl, a1, a2, a3, a4, ov, rfl, p, n, (fun i => decide ((i : Int) ∉ l)), ov, rfl, hF, by omega, tov.gr0 g1, fun x H2 g2 tx => ?_⟩
    have g12 := g1.trans g2
    have tx0 : Tp K H2 x (matD (uS n fun i => decide ((i : Int) ∉ l) || decide ((i : Int) ∈ st.take 0))) := by
      have e : uS n (fun i => decide ((i : Int) ∉ l) || decide ((i : Int) ∈ st.take 0)) = uS n (fun i => decide ((i : Int) ∉ l)) := uS_congr fun i _ => by rw [List.take_zero]; simp
      rw [e]
      exact tx
    refine ⟨.ref sb, rfl, sb, rfl, ⟨_, g12.sqT .none hss⟩, ?_⟩
    refine for_it (walk_tup (K := K) (a := sb) (xs := sx)) (fun t σ H3 => Gr none H H3 ∧ ∃ (sv : V) (y5 y6 y7 y8 : Option V), σ = [some (.ref a), some (.ref lb), some ov, some (.ref sb), some sv, y5, y6, y7, y8] ∧ Tp K H3 sv (matD (uS n fun i => decide ((i : Int) ∉ l) || decide ((i : Int) ∈ st.take t))))
      ⟨g12, x, none, none, none, none, rfl, tx0⟩ (fun i σ H2 _ h => h.1.sqT .none hss) (fun t v σ H0 H3 ht h y => ?_) fun σ H3 h => ?_
    · obtain ⟨g, sv, y5, y6, y7, y8, rfl, tsv⟩ := h
      obtain ⟨rfl, ex⟩ := y
      have htl : t < st.length := by omega
      obtain ⟨d, hd1, hd2⟩ := hsx.get ex
      rw [List.getElem?_map, List.getElem?_eq_getElem htl] at hd1
      cases hd1
      obtain ⟨hxl, hxt, hxk⟩ := hgood t st[t] (List.getElem?_eq_getElem htl)
      have htk1 : st.take (t + 1) = st.take t ++ [st[t]] := by
        rw [List.take_add_one, List.getElem?_eq_getElem htl]; rfl
      generalize st[t] = xi at *
      obtain ⟨h0, h1⟩ := hin _ hxl
      obtain ⟨j, rfl⟩ := Int.eq_ofNat_of_zero_le h0
      have hjn : j < n := by omega
      have hA3 := hA.gr0 g
      have hv3 := hd2.gr0 g
      obtain ⟨vb, rfl, hvb⟩ := hv3.ints
      have i0 : atI ([(j : Int), 0].map V.int) 0 = some (.int j) := atI_nat (j := 0) rfl
      have i1 : atI ([(j : Int), 0].map V.int) 1 = some (.int 0) := atI_nat (j := 1) rfl
      refine ⟨.ref a, rfl, .ref vb, rfl, a, .ref vb, j, p, n, arcs, rfl, hA3, hv3, h0, h1, true, rfl, iteF ?_⟩
      obtain ⟨C3, dx3, fs3, la, lx, e1, e2, e3, e4, hs, hl2, hget⟩ := hA3.fl
      obtain ⟨bb, kb, wb, wx, kx, f1, f2, f3, f4, f5, f6⟩ := hget j hjn
      refine ⟨.ref a, rfl, a, C3, dx3, fs3, .ref la, rfl, e1, e2, e3, e4, .ref vb, rfl, vb, _, 0, .int j, rfl, rfl, hvb, i0, la, lx, j, .ref bb, rfl, rfl, hs, atI_nat (j := j) f1, bb, _, rfl, f2, rfl, _, _, rfl, _, _, rfl, rfl, ?_⟩
      -- the rows it knows are all within
      have hkl : (knowsI arcs j).length ≤ 1000 := by
        unfold knowsI
        rw [List.length_map]
        exact Nat.le_trans (List.length_filter_le _ _) hok.len
      have hkx := f6.length
      rw [List.length_map] at hkx
      have hall : ∀ q ∈ knowsI arcs j, (decide (q ∉ l) || decide (q ∈ st.take t)) = true := fun q hq => by
        rcases hxk q hq with z | z
        · rw [decide_eq_true z]; rfl
        · rw [decide_eq_true z, Bool.or_true]
      refine ⟨.ref kb, rfl, kb, rfl, ⟨_, f5⟩, fun D hD => ?_⟩
      refine lcT (K := K) (as := knowsI arcs j) hkx.symm (by omega) hD f5 (fun q => !(decide (q ∉ l) || decide (q ∈ st.take t))) (fun q => rowD (unitR n [q])) (fun i4 q4 x4 H4 Acc No k1 k2 g4 hac hno => ?_) (fun H4 ys g4 e4' t4 => ?_)
      · obtain ⟨d4, hd41, hd42⟩ := f6.get k2
        rw [List.getElem?_map, k1] at hd41
        cases hd41
        have hm := List.mem_of_getElem? k1
        obtain ⟨q0, q1⟩ := knows_in hok hm
        obtain ⟨jq, rfl⟩ := Int.eq_ofNat_of_zero_le q0
        have hA4 := hA3.gr0 g4
        obtain ⟨C5, dx5, fs5, a51, a52, a53, a54⟩ := hA4.fp
        refine ⟨rfl, .ref a, rfl, a, C5, dx5, fs5, .int p, rfl, a51, a52, a53, a54, sv, rfl, x4, rfl, p, n, jq, _, sv, x4, rfl, ⟨hF, by omega, by omega, tsv.gr0 g4, hd42.gr0 g4⟩, fun H5 g5 => ?_⟩
        rw [hall _ hm]
        exact ⟨true, rfl, iteF (hno (by rw [hall _ hm]; rfl) _ g5)⟩
      · have hnil : (knowsI arcs j).filter (fun q => !(decide (q ∉ l) || decide (q ∈ st.take t))) = [] := List.filter_eq_nil_iff.mpr fun q hq => by rw [hall q hq]; decide
        rw [hnil] at t4
        cases t4
        refine ⟨Nat.zero_le _, fun z hz => ?_⟩
        have g5 : Gr none H4 (upd H4 z (.lst [])) := Gr.new hz
        refine ⟨.list [], .list [], .lst (SqL.of (g5.lst e4')) .nil, .lst (SqL.of upd_same) .nil, shaped_ints [], shaped_ints [], _, rfl, iteF ?_⟩
        have g6 := g4.trans g5
        generalize upd H4 z (.lst []) = H6 at *
        have hA6 := hA3.gr0 g6
        obtain ⟨C5, dx5, fs5, a51, a52, a53, a54⟩ := hA6.fp
        have hnf : (decide ((j : Int) ∉ l) || decide ((j : Int) ∈ st.take t)) = false := by
          rw [decide_eq_false (fun z => z hxl), decide_eq_false hxt]; rfl
        have hvb6 := g6.sqT .none hvb
        have hw6 := g6.sqT .none f3
        refine ⟨.ref a, rfl, a, C5, dx5, fs5, .int p, rfl, a51, a52, a53, a54, sv, rfl, .ref wb, rfl, .ref vb, rfl, vb, _, 1, .int 0, rfl, rfl, hvb6, i1, wb, _, 0, .ref wx, rfl, rfl, hw6, atI_nat (j := 0) rfl, ?_⟩
        refine ⟨p, n, j, _, sv, .ref wx, rfl, ⟨hF, by omega, hjn, tsv.gr0 g6, f4.gr0 g6⟩, fun H7 g7 => ?_⟩
        rw [hnf]
        refine ⟨false, rfl, iteF ?_⟩
        have g67 := g6.trans g7
        have hA7 := hA3.gr0 g67
        obtain ⟨C5, dx5, fs5, a51, a52, a53, a54⟩ := hA7.fp
        have hvb7 := g67.sqT .none hvb
        have hw7 := g67.sqT .none f3
        refine ⟨.ref a, rfl, a, C5, dx5, fs5, .int p, rfl, a51, a52, a53, a54, sv, rfl, .ref wb, rfl, .ref vb, rfl, vb, _, 1, .int 0, rfl, rfl, hvb7, i1, wb, _, 0, .ref wx, rfl, rfl, hw7, atI_nat (j := 0) rfl, ?_⟩
        refine ⟨p, n, j, _, sv, .ref wx, rfl, ⟨hF, by omega, hjn, tsv.gr0 g67, f4.gr0 g67⟩, hnf, fun y H8 g8 ty => ⟨(g.trans g67).trans g8, y, _, _, _, _, rfl, ?_⟩⟩
        have e : uS n (fun i => (decide ((i : Int) ∉ l) || decide ((i : Int) ∈ st.take t)) || decide (i = j)) = uS n (fun i => decide ((i : Int) ∉ l) || decide ((i : Int) ∈ st.take (t + 1))) := uS_congr fun i _ => by
          rw [htk1, Bool.or_assoc]
          congr 1
          rw [Bool.eq_iff_iff]
          simp only [Bool.or_eq_true, decide_eq_true_eq, List.mem_append, List.mem_singleton]
          constructor
          · rintro (h | h)
            · exact .inl h
            · subst h; exact .inr rfl
          · rintro (h | h)
            · exact .inl h
            · exact .inr (by omega)
        rw [e] at ty
        exact ty
    · exact q H3 h.1
end
end Lk

namespace Lk
open PySem PySem.Spec PyProof.Rows L2 GxR RZ L2H
/-- data of k levels -/
def items : PyData → List PyData
  | .list ds => ds
  | .tuple ds => ds
  | _ => []
def isSq (d : PyData) : Bool := isTu d || isLi d
def okD : Nat → PyData → Prop
  | 0, d => isSq d = false
  | k + 1, d => (items d).length ≤ 1000 ∧ ∀ x ∈ items d, okD k x
theorem Dp.seq {K : PySem.W.Frag} {H : Hp} {x : V} {d : PyData} (h : Dp K H x d) (hd : isSq d = true) : ∃ a xs, x = .ref a ∧ ((isLi d = true ∧ SqL K H a xs) ∨ (isLi d = false ∧ SqT K H a xs)) ∧ DpAll K H xs (items d) := by
  cases h with
  | lst h t => exact ⟨_, _, rfl, .inl ⟨rfl, h⟩, t⟩
  | tup h t => exact ⟨_, _, rfl, .inr ⟨rfl, h⟩, t⟩
  | _ => exact Bool.noConfusion hd
theorem DpAll.at {K : PySem.W.Frag} {H : Hp} : ∀ {vs : List V} {ds : List PyData} {i : Nat} {d : PyData}, DpAll K H vs ds → ds[i]? = some d → ∃ v, vs[i]? = some v ∧ Dp K H v d
  | _, _, _, _, .nil, e => by simp at e
  | _, _, 0, _, .cons h _, e => by simp at e; subst e; exact ⟨_, rfl, h⟩
  | _, _, i + 1, d, .cons _ t, e => by
    obtain ⟨v, h1, h2⟩ := DpAll.at (i := i) (d := d) t (by simpa using e)
    exact ⟨v, by simpa using h1, h2⟩
section
variable {P : Program} {w : World} {K : PySem.W.Frag} {mg : Str → Option Value} {base : Heap}
abbrev sSame : Stmt := top 60
theorem scSame : FnScope ["_law_told_here", "_law_due", "_law_k"] ["_law_told_here", "_law_due"] (defScope sSame) := ⟨rfl, rfl, rfl, by decide +kernel, rfl, by decide +kernel, by decide +kernel⟩
def spSame (K : PySem.W.Frag) (k : Nat) : Sp := fun vs H Q _ => ∃ (x y : V) (d : PyData), vs = [x, y] ∧ Dp K H x d ∧ Dp K H y d ∧ okD k d ∧ ∀ H', Gr none H H' → Q (.bl true) H'
theorem sq_at {H : Hp} {a : Addr} {xs : List V} {d : PyData} {i : Int} {v : V} {Q : VK} (h : (isLi d = true ∧ SqL K H a xs) ∨ (isLi d = false ∧ SqT K H a xs)) (e : atI xs i = some v) (q : Q v H) : rIx K (.ref a) (.int i) H Q := by
  rcases h with ⟨_, h⟩ | ⟨_, h⟩
  · exact .inl ⟨a, xs, i, v, rfl, rfl, h, e, q⟩
  · exact .inr (.inl ⟨a, xs, i, v, rfl, rfl, h, e, q⟩)
theorem sq_gr {H H' : Hp} {a : Addr} {xs : List V} {d : PyData} (h : (isLi d = true ∧ SqL K H a xs) ∨ (isLi d = false ∧ SqT K H a xs)) (g : Gr none H H') : (isLi d = true ∧ SqL K H' a xs) ∨ (isLi d = false ∧ SqT K H' a xs) := by
  rcases h with ⟨e, h⟩ | ⟨e, h⟩
  · exact .inl ⟨e, g.sqL h⟩
  · exact .inr ⟨e, g.sqT .none h⟩
theorem sq_or {H : Hp} {a : Addr} {xs : List V} {d : PyData} (h : (isLi d = true ∧ SqL K H a xs) ∨ (isLi d = false ∧ SqT K H a xs)) : SqL K H a xs ∨ SqT K H a xs := by
  rcases h with ⟨_, h⟩ | ⟨_, h⟩
  · exact .inl h
  · exact .inr h
theorem ok_same0 {f : Addr} {fd : FuncData} {j : Nat} (F : Fun K "_law_same" "_law_same" sSame f fd) (B : Bi mg)  : FnOk P w K mg base CX0 (j + 1) f fd ["_law_told_here", "_law_due"] (spSame K 0) := by
  refine F.ok scSame (fun vs H Q E h => ?_) (fun cdv A outer s H vs Q E hr h => ?_)
  · obtain ⟨x, y, d, rfl, _⟩ := h; rfl
  · obtain ⟨x, y, d, rfl, hx, hy, hok, q⟩ := h
    refine ⟨_, pss_cons (ps_if (pt_val (pe_callB call_is2 (by rfl) B.isi (by decide +kernel) (pa_cons (pv 1) (pa_cons (pe_tup (pa_cons (pe_bltn (v := .ty "tuple") (u := .type "tuple") (by rfl) B.tuple (by decide +kernel) rfl) (pa_cons (pe_bltn (v := .ty "list") (u := .type "list") (by rfl) B.list (by decide +kernel) rfl) pa_nil))) pa_nil)))) (pss_cons ps_never (pss_cons ps_never (pss_cons ps_never (pss_one ps_never)))) pss_nil)
      (pss_cons (ps_if (pt_cmpR op_isN (pv 1) pe_non (nomark _)) (pss_one (ps_ret (pe_cmpR op_isN (pv 0) pe_non (nomark _)))) pss_nil)
      (pss_cons (ps_if (pt_val (isi_bool B (pv 1))) (pss_one (ps_ret (pe_and (isi_bool B (pv 0)) (pe_one (pe_cmpR op_eq (pv 0) (pv 1) (nomark _)))))) pss_nil)
      (pss_cons (ps_if (pt_val (isi_str B (pv 1))) (pss_one (ps_ret (pe_and (isi_str B (pv 0)) (pe_one (pe_cmpR op_eq (pv 0) (pv 1) (nomark _)))))) pss_nil)
      (pss_one (ps_ret (pe_and (isi_int B (pv 0)) (pe_and (pe_not (isi_bool B (pv 0))) (pe_one (pe_cmpR op_eq (pv 0) (pv 1) (nomark _)))))))))), ?_⟩
    refine ⟨y, rfl, by show 2 ≤ sizeLine; decide, fun t ht => ?_⟩
    have g1 : Gr none H (upd H t (.tup [.ty "tuple", .ty "list"])) := Gr.new ht
    replace hx := Dp.gr g1 hx
    replace hy := Dp.gr g1 hy
    refine ⟨y, t, _, d, rfl, upd_same, .inl rfl, hy, _, rfl, ite2 (fun e => ?_) (fun e => ?_)⟩
    · generalize upd H t (.tup [.ty "tuple", .ty "list"]) = H1 at *
      exact absurd (show isSq d = true from e) (by rw [show isSq d = false from hok]; decide)
    · generalize upd H t (.tup [.ty "tuple", .ty "list"]) = H1 at *
      cases hy with
      | lst h t => exact absurd rfl e
      | tup h t => exact absurd rfl e
      | non =>
        cases hx
        exact ⟨.non, rfl, rfl, _, rfl, iteT ⟨.non, rfl, rfl, q _ g1⟩⟩
      | bl b =>
        cases hx
        refine ⟨.bl b, rfl, rfl, _, rfl, iteF ⟨.bl b, rfl, .bl b, _, rfl, .bl b, true, rfl, iteT ⟨.bl b, rfl, .bl b, _, rfl, .bl b, true, rfl, iteT ⟨.bl b, rfl, .bl b, rfl, rfl, ?_⟩⟩⟩⟩
        have := q _ g1
        rw [← decide_eq_true (rfl : V.bl b = V.bl b)] at this
        exact this
      | str z =>
        cases hx
        refine ⟨.str z, rfl, rfl, _, rfl, iteF ⟨.str z, rfl, .str z, _, rfl, .str z, false, rfl, iteF ⟨.str z, rfl, .str z, _, rfl, .str z, true, rfl, iteT ⟨.str z, rfl, .str z, _, rfl, .str z, true, rfl, iteT ⟨.str z, rfl, .str z, rfl, rfl, ?_⟩⟩⟩⟩⟩
        have := q _ g1
        rw [← decide_eq_true (rfl : V.str z = V.str z)] at this
        exact this
      | int z =>
        cases hx
        refine ⟨.int z, rfl, rfl, _, rfl, iteF ⟨.int z, rfl, .int z, _, rfl, .int z, false, rfl, iteF ⟨.int z, rfl, .int z, _, rfl, .int z, false, rfl, iteF ⟨.int z, rfl, .int z, _, rfl, .int z, true, rfl, iteT ⟨.int z, rfl, .int z, _, rfl, .int z, false, rfl, true, rfl, iteT ⟨.int z, rfl, .int z, rfl, rfl, ?_⟩⟩⟩⟩⟩⟩
        have := q _ g1
        rw [← decide_eq_true (rfl : V.int z = V.int z)] at this
        exact this
theorem ok_sameS {f : Addr} {fd : FuncData} {j k : Nat} (F : Fun K "_law_same" "_law_same" sSame f fd) (B : Bi mg) (okR : FnOk P w K mg base CX0 (j + 1) f fd ["_law_told_here", "_law_due"] (spSame K k)) (gR : mg "_law_same" = some (.ref f)) (bR : Binds K fd ["_law_told_here", "_law_due"] []) : FnOk P w K mg base CX0 (j + 2) f fd ["_law_told_here", "_law_due"] (spSame K (k + 1)) := by
  have kR := F.kp
  refine F.ok scSame (fun vs H Q E h => ?_) (fun cdv A outer s H vs Q E hr h => ?_)
  · obtain ⟨x, y, d, rfl, _⟩ := h; rfl
  · obtain ⟨x, y, d, rfl, hx, hy, hok, q⟩ := h
    refine ⟨_, pss_cons (ps_if (pt_val (pe_callB call_is2 (by rfl) B.isi (by decide +kernel) (pa_cons (pv 1) (pa_cons (pe_tup (pa_cons (pe_bltn (v := .ty "tuple") (u := .type "tuple") (by rfl) B.tuple (by decide +kernel) rfl) (pa_cons (pe_bltn (v := .ty "list") (u := .type "list") (by rfl) B.list (by decide +kernel) rfl) pa_nil))) pa_nil)))) (pss_cons (ps_if (PW.pt (pw_or (pt_not (pt_val (pe_callB call_is2 (by rfl) B.isi (by decide +kernel) (pa_cons (pv 0) (pa_cons (pe_tup (pa_cons (pe_bltn (v := .ty "tuple") (u := .type "tuple") (by rfl) B.tuple (by decide +kernel) rfl) (pa_cons (pe_bltn (v := .ty "list") (u := .type "list") (by rfl) B.list (by decide +kernel) rfl) pa_nil))) pa_nil))))) (pw_or1 (pt_cmpR op_ne (isi_list B (pv 0)) (isi_list B (pv 1)) (nomark _))))) (pss_one (ps_ret pe_bl)) pss_nil)
        (pss_cons (ps_if (pt_cmpR op_ne (lenS B (pv 0)) (lenS B (pv 1)) (nomark _)) (pss_one (ps_ret pe_bl)) pss_nil)
        (pss_cons (ps_for PassesOwn.never rfl (pi_range1 (by rfl) B.range (pa_cons (lenS B (pv 1)) pa_nil)) (pg_name (i := 2) scSame.nd rfl (Or.inl rfl))
          (pss_one (ps_if (pt_not (pt_val (pe_call okR (hr.mono (by omega)) (by rfl) gR kR bR .nil pass0 (pa_cons (pe_ix ix_seq (pv 0) (pv 2) (fun _ _ => rfl)) (pa_cons (pe_ix ix_seq (pv 1) (pv 2) (fun _ _ => rfl)) pa_nil))))) (pss_one (ps_ret pe_bl)) pss_nil)))
        (pss_one (ps_ret pe_bl))))) pss_nil)
      (pss_cons (ps_if (pt_cmpR op_isN (pv 1) pe_non (nomark _)) (pss_one (ps_ret (pe_cmpR op_isN (pv 0) pe_non (nomark _)))) pss_nil)
      (pss_cons (ps_if (pt_val (isi_bool B (pv 1))) (pss_one (ps_ret (pe_and (isi_bool B (pv 0)) (pe_one (pe_cmpR op_eq (pv 0) (pv 1) (nomark _)))))) pss_nil)
      (pss_cons (ps_if (pt_val (isi_str B (pv 1))) (pss_one (ps_ret (pe_and (isi_str B (pv 0)) (pe_one (pe_cmpR op_eq (pv 0) (pv 1) (nomark _)))))) pss_nil)
      (pss_one (ps_ret (pe_and (isi_int B (pv 0)) (pe_and (pe_not (isi_bool B (pv 0))) (pe_one (pe_cmpR op_eq (pv 0) (pv 1) (nomark _)))))))))), ?_⟩
    refine ⟨y, rfl, by show 2 ≤ sizeLine; decide, fun t ht => ?_⟩
    have g1 : Gr none H (upd H t (.tup [.ty "tuple", .ty "list"])) := Gr.new ht
    replace hx := Dp.gr g1 hx
    replace hy := Dp.gr g1 hy
    refine ⟨y, t, _, d, rfl, upd_same, .inl rfl, hy, _, rfl, ite2 (fun e => ?_) (fun e => ?_)⟩
    · generalize upd H t (.tup [.ty "tuple", .ty "list"]) = H1 at *
      have hsq : isSq d = true := e
      refine ⟨x, rfl, by show 2 ≤ sizeLine; decide, fun t2 ht2 => ?_⟩
      have g2 := g1.trans (Gr.new (x := none) (o := .tup [.ty "tuple", .ty "list"]) ht2)
      have hx2 := Dp.gr (Gr.new (x := none) (o := .tup [.ty "tuple", .ty "list"]) ht2) hx
      have hy2 := Dp.gr (Gr.new (x := none) (o := .tup [.ty "tuple", .ty "list"]) ht2) hy
      refine ⟨x, t2, _, d, rfl, upd_same, .inl rfl, hx2, _, rfl, ite2 (fun z => ?_) fun _ => ?_⟩
      · rw [show (isTu d || isLi d) = true from hsq] at z
        cases z
      refine ⟨x, rfl, x, d, rfl, hx2, y, rfl, y, d, rfl, hy2, rfl, _, rfl, ite2 (fun z => absurd z (by simp)) fun _ => ?_⟩
      generalize upd _ t2 (.tup [.ty "tuple", .ty "list"]) = H2 at *
      obtain ⟨ax, xs, rfl, sx, tx⟩ := Dp.seq hx2 hsq
      obtain ⟨ay, ys, rfl, sy, ty⟩ := Dp.seq hy2 hsq
      have lx := DpAll.len tx
      have ly := DpAll.len ty
      obtain ⟨hle, hall⟩ := hok
      refine ⟨.ref ax, rfl, ax, xs, rfl, sq_or sx, .ref ay, rfl, ay, ys, rfl, sq_or sy, rfl, _, rfl, ite2 (fun z => absurd z (by rw [lx, ly]; simp)) fun _ => ?_⟩
      refine ⟨.ref ay, rfl, ay, ys, rfl, sq_or sy, (ys.length : Nat), rfl, by omega, by omega, ?_⟩
      refine for_it (walk_range (lo := 0) (n := ys.length)) (fun i σ H3 => Gr none H2 H3 ∧ ∃ z, σ = [some (.ref ax), some (.ref ay), z]) ⟨Gr.refl, none, rfl⟩ (fun i σ H3 _ h => trivial) (fun i xv σ H0 H3 hi hP yy => ?_) fun σ H3 hP => ?_
      · obtain ⟨g3, z, rfl⟩ := hP
        obtain ⟨rfl, rfl⟩ := yy
        have hid : (items d)[i]? = some ((items d)[i]'(by omega)) := List.getElem?_eq_getElem _
        obtain ⟨vx, ex, dx⟩ := DpAll.at (DpAll.gr g3 tx) hid
        obtain ⟨vy, ey, dy⟩ := DpAll.at (DpAll.gr g3 ty) hid
        refine ⟨.ref ax, rfl, .int (0 + i), rfl, sq_at (sq_gr sx g3) (by rw [Int.zero_add]; exact atI_nat (j := i) ex) ⟨.ref ay, rfl, .int (0 + i), rfl, sq_at (sq_gr sy g3) (by rw [Int.zero_add]; exact atI_nat (j := i) ey) ?_⟩⟩
        exact ⟨vx, vy, _, rfl, dx, dy, hall _ (List.getElem_mem _), fun H4 g4 => ⟨true, rfl, iteF ⟨g3.trans g4, _, rfl⟩⟩⟩
      · exact q _ (g2.trans hP.1)
    · generalize upd H t (.tup [.ty "tuple", .ty "list"]) = H1 at *
      cases hy with
      | lst h t => exact absurd rfl e
      | tup h t => exact absurd rfl e
      | non =>
        cases hx
        exact ⟨.non, rfl, rfl, _, rfl, iteT ⟨.non, rfl, rfl, q _ g1⟩⟩
      | bl b =>
        cases hx
        refine ⟨.bl b, rfl, rfl, _, rfl, iteF ⟨.bl b, rfl, .bl b, _, rfl, .bl b, true, rfl, iteT ⟨.bl b, rfl, .bl b, _, rfl, .bl b, true, rfl, iteT ⟨.bl b, rfl, .bl b, rfl, rfl, ?_⟩⟩⟩⟩
        have := q _ g1
        rw [← decide_eq_true (rfl : V.bl b = V.bl b)] at this
        exact this
      | str z =>
        cases hx
        refine ⟨.str z, rfl, rfl, _, rfl, iteF ⟨.str z, rfl, .str z, _, rfl, .str z, false, rfl, iteF ⟨.str z, rfl, .str z, _, rfl, .str z, true, rfl, iteT ⟨.str z, rfl, .str z, _, rfl, .str z, true, rfl, iteT ⟨.str z, rfl, .str z, rfl, rfl, ?_⟩⟩⟩⟩⟩
        have := q _ g1
        rw [← decide_eq_true (rfl : V.str z = V.str z)] at this
        exact this
      | int z =>
        cases hx
        refine ⟨.int z, rfl, rfl, _, rfl, iteF ⟨.int z, rfl, .int z, _, rfl, .int z, false, rfl, iteF ⟨.int z, rfl, .int z, _, rfl, .int z, false, rfl, iteF ⟨.int z, rfl, .int z, _, rfl, .int z, true, rfl, iteT ⟨.int z, rfl, .int z, _, rfl, .int z, false, rfl, true, rfl, iteT ⟨.int z, rfl, .int z, rfl, rfl, ?_⟩⟩⟩⟩⟩⟩
        have := q _ g1
        rw [← decide_eq_true (rfl : V.int z = V.int z)] at this
        exact this
theorem okH {x qual : Str} {st : Stmt} {f : Addr} {fd : FuncData} {N ps : List Str} {k : Nat} {sp : Sp} (F : Fun K x qual st f fd) (S : FnScope N ps (defScope st)) (len : ∀ vs H Q E, sp vs H Q E → vs.length = ps.length)
    (hbody : ∀ (cdv : Value) (A : Around) (outer : List Env) (s : Shared) (H : Hp) (vs : List V) (Q : VK) (E : XK) (p : Addr × Obj), Hot1 A p → RoomH k (A.deeper (envOfC qual (defScope st) s.heap.objs.size f cdv)) → sp vs H Q E →
      ∃ t, PSs (cxH CX0 P w K mg base N qual (defScope st) f cdv A outer s H E p) (defBody st) t ∧ t { nx := fun _ H' => Q .non H', rt := Q } (L2.start N vs) H) : FnH P w K mg base CX0 (k + 1) f fd ps sp := by
  obtain ⟨oc, od, kV, doc, pm, an, cdv, ct, osl, rfl, lk, hcd⟩ := F.ex
  exact fn_ofH lk hcd S len fun A outer s H vs Q E p hot hr hsp => hbody cdv A outer s H vs Q E p hot hr hsp
theorem ok_sameH0 {f : Addr} {fd : FuncData} {j : Nat} (F : Fun K "_law_same" "_law_same" sSame f fd) (B : Bi mg)  : FnH P w K mg base CX0 (j + 1) f fd ["_law_told_here", "_law_due"] (spSame K 0) := by
  refine okH F scSame (fun vs H Q E h => ?_) (fun cdv A outer s H vs Q E p hot hr h => ?_)
  · obtain ⟨x, y, d, rfl, _⟩ := h; rfl
  · obtain ⟨x, y, d, rfl, hx, hy, hok, q⟩ := h
    have hc : HotC (cxH CX0 P w K mg base ["_law_told_here", "_law_due", "_law_k"] "_law_same" (defScope sSame) f cdv A outer s H E p) := ⟨p, hot, List.mem_singleton.mpr rfl⟩
    refine ⟨_, pss_cons (ps_if (pt_val (pe_callB call_is2 (by rfl) B.isi (by decide +kernel) (pa_cons (pv 1) (pa_cons (pe_tup (pa_cons (pe_bltn (v := .ty "tuple") (u := .type "tuple") (by rfl) B.tuple (by decide +kernel) rfl) (pa_cons (pe_bltn (v := .ty "list") (u := .type "list") (by rfl) B.list (by decide +kernel) rfl) pa_nil))) pa_nil)))) (pss_cons ps_never (pss_cons ps_never (pss_cons ps_never (pss_one ps_never)))) pss_nil)
      (pss_cons (ps_if (pt_cmpR op_isN (pv 1) pe_non (nomark _)) (pss_one (ps_ret (pe_cmpR op_isN (pv 0) pe_non (nomark _)))) pss_nil)
      (pss_cons (ps_if (pt_val (isi_bool B (pv 1))) (pss_one (ps_ret (pe_and (isi_bool B (pv 0)) (pe_one (pe_cmpR op_eq (pv 0) (pv 1) (nomark _)))))) pss_nil)
      (pss_cons (ps_if (pt_val (isi_str B (pv 1))) (pss_one (ps_ret (pe_and (isi_str B (pv 0)) (pe_one (pe_cmpR op_eq (pv 0) (pv 1) (nomark _)))))) pss_nil)
      (pss_one (ps_ret (pe_and (isi_int B (pv 0)) (pe_and (pe_not (isi_bool B (pv 0))) (pe_one (pe_cmpR op_eq (pv 0) (pv 1) (nomark _)))))))))), ?_⟩
    refine ⟨y, rfl, by show 2 ≤ sizeLine; decide, fun t ht => ?_⟩
    have g1 : Gr none H (upd H t (.tup [.ty "tuple", .ty "list"])) := Gr.new ht
    replace hx := Dp.gr g1 hx
    replace hy := Dp.gr g1 hy
    refine ⟨y, t, _, d, rfl, upd_same, .inl rfl, hy, _, rfl, ite2 (fun e => ?_) (fun e => ?_)⟩
    · generalize upd H t (.tup [.ty "tuple", .ty "list"]) = H1 at *
      exact absurd (show isSq d = true from e) (by rw [show isSq d = false from hok]; decide)
    · generalize upd H t (.tup [.ty "tuple", .ty "list"]) = H1 at *
      cases hy with
      | lst h t => exact absurd rfl e
      | tup h t => exact absurd rfl e
      | non =>
        cases hx
        exact ⟨.non, rfl, rfl, _, rfl, iteT ⟨.non, rfl, rfl, q _ g1⟩⟩
      | bl b =>
        cases hx
        refine ⟨.bl b, rfl, rfl, _, rfl, iteF ⟨.bl b, rfl, .bl b, _, rfl, .bl b, true, rfl, iteT ⟨.bl b, rfl, .bl b, _, rfl, .bl b, true, rfl, iteT ⟨.bl b, rfl, .bl b, rfl, rfl, ?_⟩⟩⟩⟩
        have := q _ g1
        rw [← decide_eq_true (rfl : V.bl b = V.bl b)] at this
        exact this
      | str z =>
        cases hx
        refine ⟨.str z, rfl, rfl, _, rfl, iteF ⟨.str z, rfl, .str z, _, rfl, .str z, false, rfl, iteF ⟨.str z, rfl, .str z, _, rfl, .str z, true, rfl, iteT ⟨.str z, rfl, .str z, _, rfl, .str z, true, rfl, iteT ⟨.str z, rfl, .str z, rfl, rfl, ?_⟩⟩⟩⟩⟩
        have := q _ g1
        rw [← decide_eq_true (rfl : V.str z = V.str z)] at this
        exact this
      | int z =>
        cases hx
        refine ⟨.int z, rfl, rfl, _, rfl, iteF ⟨.int z, rfl, .int z, _, rfl, .int z, false, rfl, iteF ⟨.int z, rfl, .int z, _, rfl, .int z, false, rfl, iteF ⟨.int z, rfl, .int z, _, rfl, .int z, true, rfl, iteT ⟨.int z, rfl, .int z, _, rfl, .int z, false, rfl, true, rfl, iteT ⟨.int z, rfl, .int z, rfl, rfl, ?_⟩⟩⟩⟩⟩⟩
        have := q _ g1
        rw [← decide_eq_true (rfl : V.int z = V.int z)] at this
        exact this
theorem ok_sameHS {f : Addr} {fd : FuncData} {j k : Nat} (F : Fun K "_law_same" "_law_same" sSame f fd) (B : Bi mg) (okR : FnH P w K mg base CX0 (j + 1) f fd ["_law_told_here", "_law_due"] (spSame K k)) (gR : mg "_law_same" = some (.ref f)) (bR : Binds K fd ["_law_told_here", "_law_due"] []) : FnH P w K mg base CX0 (j + 2) f fd ["_law_told_here", "_law_due"] (spSame K (k + 1)) := by
  have kR := F.kp
  refine okH F scSame (fun vs H Q E h => ?_) (fun cdv A outer s H vs Q E p hot hr h => ?_)
  · obtain ⟨x, y, d, rfl, _⟩ := h; rfl
  · obtain ⟨x, y, d, rfl, hx, hy, hok, q⟩ := h
    have hc : HotC (cxH CX0 P w K mg base ["_law_told_here", "_law_due", "_law_k"] "_law_same" (defScope sSame) f cdv A outer s H E p) := ⟨p, hot, List.mem_singleton.mpr rfl⟩
    refine ⟨_, pss_cons (ps_if (pt_val (pe_callB call_is2 (by rfl) B.isi (by decide +kernel) (pa_cons (pv 1) (pa_cons (pe_tup (pa_cons (pe_bltn (v := .ty "tuple") (u := .type "tuple") (by rfl) B.tuple (by decide +kernel) rfl) (pa_cons (pe_bltn (v := .ty "list") (u := .type "list") (by rfl) B.list (by decide +kernel) rfl) pa_nil))) pa_nil)))) (pss_cons (ps_if (PW.pt (pw_or (pt_not (pt_val (pe_callB call_is2 (by rfl) B.isi (by decide +kernel) (pa_cons (pv 0) (pa_cons (pe_tup (pa_cons (pe_bltn (v := .ty "tuple") (u := .type "tuple") (by rfl) B.tuple (by decide +kernel) rfl) (pa_cons (pe_bltn (v := .ty "list") (u := .type "list") (by rfl) B.list (by decide +kernel) rfl) pa_nil))) pa_nil))))) (pw_or1 (pt_cmpR op_ne (isi_list B (pv 0)) (isi_list B (pv 1)) (nomark _))))) (pss_one (ps_ret pe_bl)) pss_nil)
        (pss_cons (ps_if (pt_cmpR op_ne (lenS B (pv 0)) (lenS B (pv 1)) (nomark _)) (pss_one (ps_ret pe_bl)) pss_nil)
        (pss_cons (ps_forH (passes_of rfl) hc (pi_range1H (by rfl) B.range (pa_cons (lenS B (pv 1)) pa_nil)) (pg_name (i := 2) scSame.nd rfl (Or.inl rfl))
          (pss_one (ps_if (pt_not (pt_val (pe_callH (E := fun _ => E0) okR (hr.mono (by omega)) hc (by rfl) gR kR bR (fun _ _ _ _ _ _ _ h => h.elim) (pa_cons (pe_ix ix_seq (pv 0) (pv 2) (fun _ _ => rfl)) (pa_cons (pe_ix ix_seq (pv 1) (pv 2) (fun _ _ => rfl)) pa_nil))))) (pss_one (ps_ret pe_bl)) pss_nil)))
        (pss_one (ps_ret pe_bl))))) pss_nil)
      (pss_cons (ps_if (pt_cmpR op_isN (pv 1) pe_non (nomark _)) (pss_one (ps_ret (pe_cmpR op_isN (pv 0) pe_non (nomark _)))) pss_nil)
      (pss_cons (ps_if (pt_val (isi_bool B (pv 1))) (pss_one (ps_ret (pe_and (isi_bool B (pv 0)) (pe_one (pe_cmpR op_eq (pv 0) (pv 1) (nomark _)))))) pss_nil)
      (pss_cons (ps_if (pt_val (isi_str B (pv 1))) (pss_one (ps_ret (pe_and (isi_str B (pv 0)) (pe_one (pe_cmpR op_eq (pv 0) (pv 1) (nomark _)))))) pss_nil)
      (pss_one (ps_ret (pe_and (isi_int B (pv 0)) (pe_and (pe_not (isi_bool B (pv 0))) (pe_one (pe_cmpR op_eq (pv 0) (pv 1) (nomark _)))))))))), ?_⟩
    refine ⟨y, rfl, by show 2 ≤ sizeLine; decide, fun t ht => ?_⟩
    have g1 : Gr none H (upd H t (.tup [.ty "tuple", .ty "list"])) := Gr.new ht
    replace hx := Dp.gr g1 hx
    replace hy := Dp.gr g1 hy
    refine ⟨y, t, _, d, rfl, upd_same, .inl rfl, hy, _, rfl, ite2 (fun e => ?_) (fun e => ?_)⟩
    · generalize upd H t (.tup [.ty "tuple", .ty "list"]) = H1 at *
      have hsq : isSq d = true := e
      refine ⟨x, rfl, by show 2 ≤ sizeLine; decide, fun t2 ht2 => ?_⟩
      have g2 := g1.trans (Gr.new (x := none) (o := .tup [.ty "tuple", .ty "list"]) ht2)
      have hx2 := Dp.gr (Gr.new (x := none) (o := .tup [.ty "tuple", .ty "list"]) ht2) hx
      have hy2 := Dp.gr (Gr.new (x := none) (o := .tup [.ty "tuple", .ty "list"]) ht2) hy
      refine ⟨x, t2, _, d, rfl, upd_same, .inl rfl, hx2, _, rfl, ite2 (fun z => ?_) fun _ => ?_⟩
      · rw [show (isTu d || isLi d) = true from hsq] at z
        cases z
      refine ⟨x, rfl, x, d, rfl, hx2, y, rfl, y, d, rfl, hy2, rfl, _, rfl, ite2 (fun z => absurd z (by simp)) fun _ => ?_⟩
      generalize upd _ t2 (.tup [.ty "tuple", .ty "list"]) = H2 at *
      obtain ⟨ax, xs, rfl, sx, tx⟩ := Dp.seq hx2 hsq
      obtain ⟨ay, ys, rfl, sy, ty⟩ := Dp.seq hy2 hsq
      have lx := DpAll.len tx
      have ly := DpAll.len ty
      obtain ⟨hle, hall⟩ := hok
      refine ⟨.ref ax, rfl, ax, xs, rfl, sq_or sx, .ref ay, rfl, ay, ys, rfl, sq_or sy, rfl, _, rfl, ite2 (fun z => absurd z (by rw [lx, ly]; simp)) fun _ => ?_⟩
      refine ⟨.ref ay, rfl, ay, ys, rfl, sq_or sy, (ys.length : Nat), rfl, by omega, by omega, ?_⟩
      refine for_it (walk_range (lo := 0) (n := ys.length)) (fun i σ H3 => Gr none H2 H3 ∧ ∃ z, σ = [some (.ref ax), some (.ref ay), z]) ⟨Gr.refl, none, rfl⟩ (fun i σ H3 _ h => trivial) (fun i xv σ H0 H3 hi hP yy => ?_) fun σ H3 hP => ?_
      · obtain ⟨g3, z, rfl⟩ := hP
        obtain ⟨rfl, rfl⟩ := yy
        have hid : (items d)[i]? = some ((items d)[i]'(by omega)) := List.getElem?_eq_getElem _
        obtain ⟨vx, ex, dx⟩ := DpAll.at (DpAll.gr g3 tx) hid
        obtain ⟨vy, ey, dy⟩ := DpAll.at (DpAll.gr g3 ty) hid
        refine ⟨.ref ax, rfl, .int (0 + i), rfl, sq_at (sq_gr sx g3) (by rw [Int.zero_add]; exact atI_nat (j := i) ex) ⟨.ref ay, rfl, .int (0 + i), rfl, sq_at (sq_gr sy g3) (by rw [Int.zero_add]; exact atI_nat (j := i) ey) ?_⟩⟩
        exact ⟨vx, vy, _, rfl, dx, dy, hall _ (List.getElem_mem _), fun H4 g4 => ⟨true, rfl, iteF ⟨g3.trans g4, _, rfl⟩⟩⟩
      · exact q _ (g2.trans hP.1)
    · generalize upd H t (.tup [.ty "tuple", .ty "list"]) = H1 at *
      cases hy with
      | lst h t => exact absurd rfl e
      | tup h t => exact absurd rfl e
      | non =>
        cases hx
        exact ⟨.non, rfl, rfl, _, rfl, iteT ⟨.non, rfl, rfl, q _ g1⟩⟩
      | bl b =>
        cases hx
        refine ⟨.bl b, rfl, rfl, _, rfl, iteF ⟨.bl b, rfl, .bl b, _, rfl, .bl b, true, rfl, iteT ⟨.bl b, rfl, .bl b, _, rfl, .bl b, true, rfl, iteT ⟨.bl b, rfl, .bl b, rfl, rfl, ?_⟩⟩⟩⟩
        have := q _ g1
        rw [← decide_eq_true (rfl : V.bl b = V.bl b)] at this
        exact this
      | str z =>
        cases hx
        refine ⟨.str z, rfl, rfl, _, rfl, iteF ⟨.str z, rfl, .str z, _, rfl, .str z, false, rfl, iteF ⟨.str z, rfl, .str z, _, rfl, .str z, true, rfl, iteT ⟨.str z, rfl, .str z, _, rfl, .str z, true, rfl, iteT ⟨.str z, rfl, .str z, rfl, rfl, ?_⟩⟩⟩⟩⟩
        have := q _ g1
        rw [← decide_eq_true (rfl : V.str z = V.str z)] at this
        exact this
      | int z =>
        cases hx
        refine ⟨.int z, rfl, rfl, _, rfl, iteF ⟨.int z, rfl, .int z, _, rfl, .int z, false, rfl, iteF ⟨.int z, rfl, .int z, _, rfl, .int z, false, rfl, iteF ⟨.int z, rfl, .int z, _, rfl, .int z, true, rfl, iteT ⟨.int z, rfl, .int z, _, rfl, .int z, false, rfl, true, rfl, iteT ⟨.int z, rfl, .int z, rfl, rfl, ?_⟩⟩⟩⟩⟩⟩
        have := q _ g1
        rw [← decide_eq_true (rfl : V.int z = V.int z)] at this
        exact this
theorem ok_same {f : Addr} {fd : FuncData} (F : Fun K "_law_same" "_law_same" sSame f fd) (B : Bi mg) (gR : mg "_law_same" = some (.ref f)) (bR : Binds K fd ["_law_told_here", "_law_due"] []) : ∀ k, FnOk P w K mg base CX0 (k + 1) f fd ["_law_told_here", "_law_due"] (spSame K k)
  | 0 => ok_same0 F B
  | k + 1 => ok_sameS F B (ok_same F B gR bR k) gR bR
theorem ok_sameH {f : Addr} {fd : FuncData} (F : Fun K "_law_same" "_law_same" sSame f fd) (B : Bi mg) (gR : mg "_law_same" = some (.ref f)) (bR : Binds K fd ["_law_told_here", "_law_due"] []) : ∀ k, FnH P w K mg base CX0 (k + 1) f fd ["_law_told_here", "_law_due"] (spSame K k)
  | 0 => ok_sameH0 F B
  | k + 1 => ok_sameHS F B (ok_sameH F B gR bR k) gR bR
end
end Lk

namespace Lk
open PySem PySem.Spec PyProof.Rows L2 GxR RZ L2H
theorem PE.conv {X : Cx} {e : Expr} {t t' : TE} (h : PE X e t) (c : ∀ σ H Q, t' σ H Q → t σ H Q) : PE X e t' := ⟨fun pins s σ H Q I q => h.run pins s σ H Q I (c σ H Q q)⟩
/-- the sixteen kinds of errors by their places -/
structure Nms (mg : Str → Option Value) (c : Nat → Addr) (cS : Addr) : Prop where
  n0 : mg "InvalidNumber" = some (.ref (c 0))
  n1 : mg "InvalidMatrix" = some (.ref (c 1))
  n2 : mg "InvalidAudience" = some (.ref (c 2))
  n3 : mg "InvalidNet" = some (.ref (c 3))
  n4 : mg "InvalidLot" = some (.ref (c 4))
  n5 : mg "InvalidWord" = some (.ref (c 5))
  n6 : mg "InvalidWords" = some (.ref (c 6))
  n7 : mg "InvalidSignals" = some (.ref (c 7))
  n8 : mg "InvalidLosses" = some (.ref (c 8))
  n9 : mg "InvalidText" = some (.ref (c 9))
  n10 : mg "InvalidLine" = some (.ref (c 10))
  n11 : mg "UnknownWord" = some (.ref (c 11))
  n12 : mg "TooMany" = some (.ref (c 12))
  n13 : mg "Undefined" = some (.ref (c 13))
  n14 : mg "NothingToUndo" = some (.ref (c 14))
  n15 : mg "InvalidDeed" = some (.ref (c 15))
  say : mg "SayError" = some (.ref cS)
  ve : mg "ValueError" = none
/-- the class D is the k-th kind and no other one -/
structure KdF (K : PySem.W.Frag) (c : Nat → Addr) (cS D : Addr) (k : Nat) : Prop where
  ex : L2.ExcC K D
  hk : k < 16
  ks : ∀ i, i < 16 → PySem.W.kitOne K (.ref D) (.ref (c i)) = some (decide (i = k))
  s : PySem.W.kitOne K (.ref D) (.ref cS) = some true
  v : PySem.W.kitOne K (.ref D) (.type "ValueError") = some true
def kindsN (k n : Nat) : List Bool := (List.range n).map fun i => decide (i = k)
section
variable {P : Program} {w : World} {K : PySem.W.Frag} {mg : Str → Option Value} {base : Heap} {c : Nat → Addr} {cS : Addr}
/-- a promise about the caught exception: its address, class, dict -/
def lift (sp : Addr → Value → Option Addr → Sp) : Addr × Obj → Sp := fun p vs H Q E => ∃ cls d, Zc cls d p.2 ∧ (∃ vs' : Array Value, p.2.data = .fields vs') ∧ sp p.1 cls d vs H Q E
abbrev sKinds : Stmt := top 61
abbrev sAlone : Stmt := top 62
theorem scKinds : FnScope ["_law_e", "_law_kinds_here"] ["_law_e"] (defScope sKinds) := ⟨rfl, rfl, rfl, by decide +kernel, rfl, by decide +kernel, by decide +kernel⟩
theorem scAlone : FnScope ["_law_e", "_law_kind", "_law_kinds_here"] ["_law_e", "_law_kind"] (defScope sAlone) := ⟨rfl, rfl, rfl, by decide +kernel, rfl, by decide +kernel, by decide +kernel⟩
def spKinds (K : PySem.W.Frag) (c : Nat → Addr) (cS : Addr) : Addr → Value → Option Addr → Sp := fun a cls d vs H Q _ => ∃ (D dx : Addr) (k : Nat) (fs : List (Str × V)), vs = [.ref a] ∧ KdF K c cS D k ∧ cls = .ref D ∧ d = some dx ∧ H dx = some (.xd fs) ∧ ∀ H' l, Gr none H H' → H' l = some (.lst ((kindsN k 16).map V.bl)) → Q (.ref l) H'
theorem ok_kinds {f : Addr} {fd : FuncData} {j : Nat} (F : Fun K "_law_kinds" "_law_kinds" sKinds f fd) (B : Bi mg) (N : Nms mg c cS) : R4.FnP P w K mg base (j + 1) f fd ["_law_e"] (lift (spKinds K c cS)) := by
  refine R4.FnP.ok F scKinds (fun p vs H Q E h => ?_) (fun cdv p A outer s H vs Q E hot hr h => ?_)
  · obtain ⟨cls, d, _, _, D, dx, k, fs, rfl, _⟩ := h; rfl
  · obtain ⟨a, oe⟩ := p
    obtain ⟨cls, d, hz, hf, D, dx, k, fs, rfl, X1, rfl, rfl, hd, q⟩ := h
    have hp : (a, oe) ∈ (cxH CX0 P w K mg base ["_law_e", "_law_kinds_here"] "_law_kinds" (defScope sKinds) f cdv A outer s H E (a, oe)).pn := List.mem_singleton.mpr rfl
    refine ⟨_, pss_cons (ps_set (i := 1) scKinds.nd rfl (Or.inl rfl) (pe_lst (pa_cons (pe_callB (R4.call_isP X1.ex hz hf hp) (by rfl) B.isi (by decide +kernel) (pa_cons (pv 0) (pa_cons (pe_glob (v := .ref (c 0)) (by rfl) N.n0 rfl) pa_nil))) (pa_cons (pe_callB (R4.call_isP X1.ex hz hf hp) (by rfl) B.isi (by decide +kernel) (pa_cons (pv 0) (pa_cons (pe_glob (v := .ref (c 1)) (by rfl) N.n1 rfl) pa_nil))) (pa_cons (pe_callB (R4.call_isP X1.ex hz hf hp) (by rfl) B.isi (by decide +kernel) (pa_cons (pv 0) (pa_cons (pe_glob (v := .ref (c 2)) (by rfl) N.n2 rfl) pa_nil))) pa_nil)))))
      (pss_cons (ps_set (i := 1) scKinds.nd rfl (Or.inl rfl) (pe_op op_cat (pv 1) (pe_lst (pa_cons (pe_callB (R4.call_isP X1.ex hz hf hp) (by rfl) B.isi (by decide +kernel) (pa_cons (pv 0) (pa_cons (pe_glob (v := .ref (c 3)) (by rfl) N.n3 rfl) pa_nil))) (pa_cons (pe_callB (R4.call_isP X1.ex hz hf hp) (by rfl) B.isi (by decide +kernel) (pa_cons (pv 0) (pa_cons (pe_glob (v := .ref (c 4)) (by rfl) N.n4 rfl) pa_nil))) (pa_cons (pe_callB (R4.call_isP X1.ex hz hf hp) (by rfl) B.isi (by decide +kernel) (pa_cons (pv 0) (pa_cons (pe_glob (v := .ref (c 5)) (by rfl) N.n5 rfl) pa_nil))) pa_nil))))))
      (pss_cons (ps_set (i := 1) scKinds.nd rfl (Or.inl rfl) (pe_op op_cat (pv 1) (pe_lst (pa_cons (pe_callB (R4.call_isP X1.ex hz hf hp) (by rfl) B.isi (by decide +kernel) (pa_cons (pv 0) (pa_cons (pe_glob (v := .ref (c 6)) (by rfl) N.n6 rfl) pa_nil))) (pa_cons (pe_callB (R4.call_isP X1.ex hz hf hp) (by rfl) B.isi (by decide +kernel) (pa_cons (pv 0) (pa_cons (pe_glob (v := .ref (c 7)) (by rfl) N.n7 rfl) pa_nil))) (pa_cons (pe_callB (R4.call_isP X1.ex hz hf hp) (by rfl) B.isi (by decide +kernel) (pa_cons (pv 0) (pa_cons (pe_glob (v := .ref (c 8)) (by rfl) N.n8 rfl) pa_nil))) pa_nil))))))
      (pss_cons (ps_set (i := 1) scKinds.nd rfl (Or.inl rfl) (pe_op op_cat (pv 1) (pe_lst (pa_cons (pe_callB (R4.call_isP X1.ex hz hf hp) (by rfl) B.isi (by decide +kernel) (pa_cons (pv 0) (pa_cons (pe_glob (v := .ref (c 9)) (by rfl) N.n9 rfl) pa_nil))) (pa_cons (pe_callB (R4.call_isP X1.ex hz hf hp) (by rfl) B.isi (by decide +kernel) (pa_cons (pv 0) (pa_cons (pe_glob (v := .ref (c 10)) (by rfl) N.n10 rfl) pa_nil))) (pa_cons (pe_callB (R4.call_isP X1.ex hz hf hp) (by rfl) B.isi (by decide +kernel) (pa_cons (pv 0) (pa_cons (pe_glob (v := .ref (c 11)) (by rfl) N.n11 rfl) pa_nil))) pa_nil))))))
      (pss_cons (ps_set (i := 1) scKinds.nd rfl (Or.inl rfl) (pe_op op_cat (pv 1) (pe_lst (pa_cons (pe_callB (R4.call_isP X1.ex hz hf hp) (by rfl) B.isi (by decide +kernel) (pa_cons (pv 0) (pa_cons (pe_glob (v := .ref (c 12)) (by rfl) N.n12 rfl) pa_nil))) (pa_cons (pe_callB (R4.call_isP X1.ex hz hf hp) (by rfl) B.isi (by decide +kernel) (pa_cons (pv 0) (pa_cons (pe_glob (v := .ref (c 13)) (by rfl) N.n13 rfl) pa_nil))) (pa_cons (pe_callB (R4.call_isP X1.ex hz hf hp) (by rfl) B.isi (by decide +kernel) (pa_cons (pv 0) (pa_cons (pe_glob (v := .ref (c 14)) (by rfl) N.n14 rfl) pa_nil))) pa_nil))))))
      (pss_cons (ps_expr (pe_bm PySem.F.plainAttrs_list PySem.F.slot_list_append PySem.F.type_list_append mt_append (pv 1) (pa_cons (pe_callB (R4.call_isP X1.ex hz hf hp) (by rfl) B.isi (by decide +kernel) (pa_cons (pv 0) (pa_cons (pe_glob (v := .ref (c 15)) (by rfl) N.n15 rfl) pa_nil))) pa_nil)))
      (pss_one (ps_ret (pv 1)))))))), ?_⟩
    refine ⟨.ref a, rfl, .ref (c 0), .ref (c 0), _, rfl, (fun u h => h), X1.ks 0 (by decide), ⟨_, hd⟩, .ref a, rfl, .ref (c 1), .ref (c 1), _, rfl, (fun u h => h), X1.ks 1 (by decide), ⟨_, hd⟩, .ref a, rfl, .ref (c 2), .ref (c 2), _, rfl, (fun u h => h), X1.ks 2 (by decide), ⟨_, hd⟩, by show 3 ≤ sizeLine; decide, fun l0 hl0 => ?_⟩
    have e0 : (upd H l0 (.lst [.bl (decide (0 = k)), .bl (decide (1 = k)), .bl (decide (2 = k))])) l0 = some (.lst ((kindsN k 3).map V.bl)) := upd_same
    have g0 : Gr none H (upd H l0 (.lst [.bl (decide (0 = k)), .bl (decide (1 = k)), .bl (decide (2 = k))])) := Gr.new hl0
    have hd0 := g0.keep dx _ (by simp) hd (fun _ z => nomatch z)
    generalize upd H l0 (.lst [.bl (decide (0 = k)), .bl (decide (1 = k)), .bl (decide (2 = k))]) = H0 at *
    refine ⟨.ref l0, rfl, .ref a, rfl, .ref (c 3), .ref (c 3), _, rfl, (fun u h => h), X1.ks 3 (by decide), ⟨_, hd0⟩, .ref a, rfl, .ref (c 4), .ref (c 4), _, rfl, (fun u h => h), X1.ks 4 (by decide), ⟨_, hd0⟩, .ref a, rfl, .ref (c 5), .ref (c 5), _, rfl, (fun u h => h), X1.ks 5 (by decide), ⟨_, hd0⟩, by show 3 ≤ sizeLine; decide, fun m1 hm1 => ?_⟩
    refine ⟨l0, m1, _, _, rfl, rfl, (Gr.new (x := none) hm1).lst e0, upd_same, by show 3 + 3 ≤ sizeLine; decide, fun l1 hl1 => ?_⟩
    have gm1 := Gr.new (x := none) (o := .lst [.bl (decide (3 = k)), .bl (decide (4 = k)), .bl (decide (5 = k))]) hm1
    have gl1 : Gr none (upd H0 m1 (.lst [.bl (decide (3 = k)), .bl (decide (4 = k)), .bl (decide (5 = k))])) (upd (upd H0 m1 (.lst [.bl (decide (3 = k)), .bl (decide (4 = k)), .bl (decide (5 = k))])) l1 (.lst ((kindsN k 3).map V.bl ++ [.bl (decide (3 = k)), .bl (decide (4 = k)), .bl (decide (5 = k))]))) := Gr.new hl1
    have e1 : (upd (upd H0 m1 (.lst [.bl (decide (3 = k)), .bl (decide (4 = k)), .bl (decide (5 = k))])) l1 (.lst ((kindsN k 3).map V.bl ++ [.bl (decide (3 = k)), .bl (decide (4 = k)), .bl (decide (5 = k))]))) l1 = some (.lst ((kindsN k 6).map V.bl)) := upd_same
    have g1 := g0.trans (gm1.trans gl1)
    have hd1 := (gm1.trans gl1).keep dx _ (by simp) hd0 (fun _ z => nomatch z)
    generalize upd (upd H0 m1 (.lst [.bl (decide (3 = k)), .bl (decide (4 = k)), .bl (decide (5 = k))])) l1 (.lst ((kindsN k 3).map V.bl ++ [.bl (decide (3 = k)), .bl (decide (4 = k)), .bl (decide (5 = k))])) = H1 at *
    refine ⟨.ref l1, rfl, .ref a, rfl, .ref (c 6), .ref (c 6), _, rfl, (fun u h => h), X1.ks 6 (by decide), ⟨_, hd1⟩, .ref a, rfl, .ref (c 7), .ref (c 7), _, rfl, (fun u h => h), X1.ks 7 (by decide), ⟨_, hd1⟩, .ref a, rfl, .ref (c 8), .ref (c 8), _, rfl, (fun u h => h), X1.ks 8 (by decide), ⟨_, hd1⟩, by show 3 ≤ sizeLine; decide, fun m2 hm2 => ?_⟩
    refine ⟨l1, m2, _, _, rfl, rfl, (Gr.new (x := none) hm2).lst e1, upd_same, by show 6 + 3 ≤ sizeLine; decide, fun l2 hl2 => ?_⟩
    have gm2 := Gr.new (x := none) (o := .lst [.bl (decide (6 = k)), .bl (decide (7 = k)), .bl (decide (8 = k))]) hm2
    have gl2 : Gr none (upd H1 m2 (.lst [.bl (decide (6 = k)), .bl (decide (7 = k)), .bl (decide (8 = k))])) (upd (upd H1 m2 (.lst [.bl (decide (6 = k)), .bl (decide (7 = k)), .bl (decide (8 = k))])) l2 (.lst ((kindsN k 6).map V.bl ++ [.bl (decide (6 = k)), .bl (decide (7 = k)), .bl (decide (8 = k))]))) := Gr.new hl2
    have e2 : (upd (upd H1 m2 (.lst [.bl (decide (6 = k)), .bl (decide (7 = k)), .bl (decide (8 = k))])) l2 (.lst ((kindsN k 6).map V.bl ++ [.bl (decide (6 = k)), .bl (decide (7 = k)), .bl (decide (8 = k))]))) l2 = some (.lst ((kindsN k 9).map V.bl)) := upd_same
    have g2 := g1.trans (gm2.trans gl2)
    have hd2 := (gm2.trans gl2).keep dx _ (by simp) hd1 (fun _ z => nomatch z)
    generalize upd (upd H1 m2 (.lst [.bl (decide (6 = k)), .bl (decide (7 = k)), .bl (decide (8 = k))])) l2 (.lst ((kindsN k 6).map V.bl ++ [.bl (decide (6 = k)), .bl (decide (7 = k)), .bl (decide (8 = k))])) = H2 at *
    refine ⟨.ref l2, rfl, .ref a, rfl, .ref (c 9), .ref (c 9), _, rfl, (fun u h => h), X1.ks 9 (by decide), ⟨_, hd2⟩, .ref a, rfl, .ref (c 10), .ref (c 10), _, rfl, (fun u h => h), X1.ks 10 (by decide), ⟨_, hd2⟩, .ref a, rfl, .ref (c 11), .ref (c 11), _, rfl, (fun u h => h), X1.ks 11 (by decide), ⟨_, hd2⟩, by show 3 ≤ sizeLine; decide, fun m3 hm3 => ?_⟩
    refine ⟨l2, m3, _, _, rfl, rfl, (Gr.new (x := none) hm3).lst e2, upd_same, by show 9 + 3 ≤ sizeLine; decide, fun l3 hl3 => ?_⟩
    have gm3 := Gr.new (x := none) (o := .lst [.bl (decide (9 = k)), .bl (decide (10 = k)), .bl (decide (11 = k))]) hm3
    have gl3 : Gr none (upd H2 m3 (.lst [.bl (decide (9 = k)), .bl (decide (10 = k)), .bl (decide (11 = k))])) (upd (upd H2 m3 (.lst [.bl (decide (9 = k)), .bl (decide (10 = k)), .bl (decide (11 = k))])) l3 (.lst ((kindsN k 9).map V.bl ++ [.bl (decide (9 = k)), .bl (decide (10 = k)), .bl (decide (11 = k))]))) := Gr.new hl3
    have e3 : (upd (upd H2 m3 (.lst [.bl (decide (9 = k)), .bl (decide (10 = k)), .bl (decide (11 = k))])) l3 (.lst ((kindsN k 9).map V.bl ++ [.bl (decide (9 = k)), .bl (decide (10 = k)), .bl (decide (11 = k))]))) l3 = some (.lst ((kindsN k 12).map V.bl)) := upd_same
    have g3 := g2.trans (gm3.trans gl3)
    have hd3 := (gm3.trans gl3).keep dx _ (by simp) hd2 (fun _ z => nomatch z)
    generalize upd (upd H2 m3 (.lst [.bl (decide (9 = k)), .bl (decide (10 = k)), .bl (decide (11 = k))])) l3 (.lst ((kindsN k 9).map V.bl ++ [.bl (decide (9 = k)), .bl (decide (10 = k)), .bl (decide (11 = k))])) = H3 at *
    refine ⟨.ref l3, rfl, .ref a, rfl, .ref (c 12), .ref (c 12), _, rfl, (fun u h => h), X1.ks 12 (by decide), ⟨_, hd3⟩, .ref a, rfl, .ref (c 13), .ref (c 13), _, rfl, (fun u h => h), X1.ks 13 (by decide), ⟨_, hd3⟩, .ref a, rfl, .ref (c 14), .ref (c 14), _, rfl, (fun u h => h), X1.ks 14 (by decide), ⟨_, hd3⟩, by show 3 ≤ sizeLine; decide, fun m4 hm4 => ?_⟩
    refine ⟨l3, m4, _, _, rfl, rfl, (Gr.new (x := none) hm4).lst e3, upd_same, by show 12 + 3 ≤ sizeLine; decide, fun l4 hl4 => ?_⟩
    have gm4 := Gr.new (x := none) (o := .lst [.bl (decide (12 = k)), .bl (decide (13 = k)), .bl (decide (14 = k))]) hm4
    have gl4 : Gr none (upd H3 m4 (.lst [.bl (decide (12 = k)), .bl (decide (13 = k)), .bl (decide (14 = k))])) (upd (upd H3 m4 (.lst [.bl (decide (12 = k)), .bl (decide (13 = k)), .bl (decide (14 = k))])) l4 (.lst ((kindsN k 12).map V.bl ++ [.bl (decide (12 = k)), .bl (decide (13 = k)), .bl (decide (14 = k))]))) := Gr.new hl4
    have e4 : (upd (upd H3 m4 (.lst [.bl (decide (12 = k)), .bl (decide (13 = k)), .bl (decide (14 = k))])) l4 (.lst ((kindsN k 12).map V.bl ++ [.bl (decide (12 = k)), .bl (decide (13 = k)), .bl (decide (14 = k))]))) l4 = some (.lst ((kindsN k 15).map V.bl)) := upd_same
    have g4 := g3.trans (gm4.trans gl4)
    have hd4 := (gm4.trans gl4).keep dx _ (by simp) hd3 (fun _ z => nomatch z)
    generalize upd (upd H3 m4 (.lst [.bl (decide (12 = k)), .bl (decide (13 = k)), .bl (decide (14 = k))])) l4 (.lst ((kindsN k 12).map V.bl ++ [.bl (decide (12 = k)), .bl (decide (13 = k)), .bl (decide (14 = k))])) = H4 at *
    refine ⟨.ref l4, rfl, .inl ⟨rfl, _, SqL.of e4⟩, .ref a, rfl, .ref (c 15), .ref (c 15), _, rfl, (fun u h => h), X1.ks 15 (by decide), ⟨_, hd4⟩, ?_⟩
    refine ⟨l4, _, _, rfl, rfl, e4, by show 15 < sizeLine; decide, .ref l4, rfl, ?_⟩
    have hf4 : H l4 = none := (g3.trans gm4).free0 hl4
    exact q _ l4 (Gr.fresh g4 hf4) upd_same
def spAlone (K : PySem.W.Frag) (c : Nat → Addr) (cS : Addr) : Addr → Value → Option Addr → Sp := fun a cls d vs H Q _ => ∃ (D dx : Addr) (k : Nat) (fs : List (Str × V)), vs = [.ref a, .int k] ∧ KdF K c cS D k ∧ cls = .ref D ∧ d = some dx ∧ H dx = some (.xd fs) ∧ ∀ H', Gr none H H' → Q (.bl true) H'
theorem kinds_count {k : Nat} (h : k < 16) : (kindsN k 16).count true = 1 := by
  have : ∀ k : Fin 16, (kindsN k.1 16).count true = 1 := by decide +kernel
  exact this ⟨k, h⟩
theorem ok_alone {f : Addr} {fd : FuncData} {j : Nat} (F : Fun K "_law_alone" "_law_alone" sAlone f fd) (B : Bi mg) (N : Nms mg c cS) {fK : Addr} {fdK : FuncData} (okK : R4.FnP P w K mg base 1 fK fdK ["_law_e"] (lift (spKinds K c cS))) (gK : mg "_law_kinds" = some (.ref fK)) (kK : PySem.W.keepIn K (.ref fK) = true) (bK : Binds K fdK ["_law_e"] []) :
    R4.FnP P w K mg base (j + 2) f fd ["_law_e", "_law_kind"] (lift (spAlone K c cS)) := by
  refine R4.FnP.ok F scAlone (fun p vs H Q E h => ?_) (fun cdv p A outer s H vs Q E hot hr h => ?_)
  · obtain ⟨cls, d, _, _, D, dx, k, fs, rfl, _⟩ := h; rfl
  · obtain ⟨a, oe⟩ := p
    obtain ⟨cls, d, hz, hf, D, dx, k, fs, rfl, X1, rfl, rfl, hd, q⟩ := h
    have hp : (a, oe) ∈ (cxH CX0 P w K mg base ["_law_e", "_law_kind", "_law_kinds_here"] "_law_alone" (defScope sAlone) f cdv A outer s H E (a, oe)).pn := List.mem_singleton.mpr rfl
    refine ⟨_, pss_cons (ps_set (i := 2) scAlone.nd rfl (Or.inl rfl) (R4.pe_callP okK (hr.mono (by omega)) hot hp (by rfl) gK kK bK (pa_cons (pv 0) pa_nil)))
      (pss_one (ps_ret (pe_and (pe_callB (R4.call_isP X1.ex hz hf hp) (by rfl) B.isi (by decide +kernel) (pa_cons (pv 0) (pa_cons (pe_glob (v := .ref cS) (by rfl) N.say rfl) pa_nil)))
        (pe_and (pe_callB (R4.call_isP X1.ex hz hf hp) (by rfl) B.isi (by decide +kernel) (pa_cons (pv 0) (pa_cons (pe_bltn (v := .ty "ValueError") (u := .type "ValueError") (by rfl) N.ve (by decide +kernel) rfl) pa_nil)))
        (pe_and (pe_ix ix_list (pv 2) (pv 1) (fun _ _ => rfl))
        (pe_one (pe_cmpR op_eq (pe_bm PySem.F.plainAttrs_list PySem.F.slot_list_count PySem.F.type_list_count R3.mt_countB (pv 2) (pa_cons pe_bl pa_nil)) pe_int (nomark _)))))))), ?_⟩
    refine ⟨.ref a, rfl, .ref D, some dx, hz, hf, D, dx, k, fs, rfl, X1, rfl, rfl, hd, fun H1 l g1 e1 => ?_⟩
    have hd1 := g1.keep dx _ (by simp) hd (fun _ z => nomatch z)
    have hg : (kindsN k 16)[k]? = some true := by
      unfold kindsN
      rw [List.getElem?_map, List.getElem?_range X1.hk]
      show some (decide (k = k)) = some true
      rw [decide_eq_true rfl]
    refine ⟨.ref a, rfl, .ref cS, .ref cS, true, rfl, (fun u h => h), X1.s, ⟨_, hd1⟩, true, rfl, iteT ?_⟩
    refine ⟨.ref a, rfl, .ty "ValueError", .type "ValueError", true, rfl, (fun u h => h), X1.v, ⟨_, hd1⟩, true, rfl, iteT ?_⟩
    refine ⟨.ref l, rfl, .int k, rfl, l, _, k, .bl true, rfl, rfl, SqL.of e1, atI_nat (j := k) (by rw [List.getElem?_map, hg]; rfl), true, rfl, iteT ?_⟩
    refine ⟨.ref l, rfl, .inl ⟨rfl, _, SqL.of e1⟩, l, kindsN k 16, rfl, rfl, SqL.of e1, rfl, ?_⟩
    rw [kinds_count X1.hk]
    exact q H1 g1
end
end Lk

namespace Lk
open PySem PySem.Spec PyProof.Rows L2 GxR RZ L2H
inductive RefCase (dp dl : PyData) (n : Nat) (arcs : List (Int × Int)) : Nat → PyData → Prop
  | num (h : isF dp = false) : RefCase dp dl n arcs 0 dp
  | lot (hF : isF dp = true) (h : lotB dl n = false) : RefCase dp dl n arcs 4 dl
  | und (l : List Int) (hF : isF dp = true) (e : dl = intsD l) (hl : lotB dl n = true) (ht : takeF arcs l.length l = none) : RefCase dp dl n arcs 13 (.str "ladder")
theorem takesN0 {X : Cx} : L2N.Takes X (fun _ _ _ _ => False) := fun _ _ x => by
  obtain ⟨_, _, _, _, _, _, _, _, _, _, _, _, _, _, _, _, z⟩ := x
  exact z.elim
/-- one of the three errors that are told -/
structure Er3 (K : PySem.W.Frag) (c : Nat → Addr) (cS D : Addr) (k : Nat) : Prop where
  kd : KdF K c cS D k
  xf : XfC K D
  exm : PySem.W.exmOne K (.ref D) (.ref cS) = some true
def pick (CNum CLot : Addr) (cls : Value) : Addr := if cls = .ref CNum then CNum else CLot
theorem pick_num {CNum CLot : Addr} : pick CNum CLot (.ref CNum) = CNum := if_pos rfl
theorem pick_lot {CNum CLot : Addr} : pick CNum CLot (.ref CLot) = CLot := by
  unfold pick
  split
  · rename_i h
    exact (Value.ref.inj h).symm
  · rfl
theorem pick_or {CNum CLot : Addr} (cls : Value) {p : Addr → Prop} (h1 : p CNum) (h2 : p CLot) : p (pick CNum CLot cls) := by
  unfold pick
  split
  · exact h1
  · exact h2
section
variable {P : Program} {w : World} {K : PySem.W.Frag} {mg : Str → Option Value} {base : Heap} {c : Nat → Addr} {cS : Addr}
abbrev sRef : Stmt := top 65
theorem scRef : FnScope ["_law_helper", "_law_p", "_law_lot", "_law_kind", "_law_due", "_law_e"] ["_law_helper", "_law_p", "_law_lot", "_law_kind", "_law_due"] (defScope sRef) := ⟨rfl, rfl, rfl, by decide +kernel, rfl, by decide +kernel, by decide +kernel⟩
def spRef (K : PySem.W.Frag) (C : Addr) : Sp := fun vs H Q _ => ∃ (h : Addr) (vp vl due : V) (dp dl dd : PyData) (n k : Nat) (arcs : List (Int × Int)), vs = [.ref h, vp, vl, .int k, due] ∧ NetAt K C H h n arcs ∧ Dp K H vp dp ∧ Dp K H vl dl ∧ (∀ ds, dl = .tuple ds → ds.length ≤ 1000) ∧
  Dp K H due dd ∧ okD 3 dd ∧ RefCase dp dl n arcs k dd ∧ ∀ H', Gr none H H' → Q (.bl true) H'
theorem ok_ref {f C CNum CLot CUnd : Addr} {fd : FuncData} {j : Nat} (F : Fun K "_law_refused" "_law_refused" sRef f fd) (B : Bi mg) (N : Nms mg c cS) (X1 : Er3 K c cS CNum 0) (X2 : Er3 K c cS CLot 4) (X3 : Er3 K c cS CUnd 13)
    (n1 : PySem.W.findIn K (.ref CNum) "value" = some none) (n2 : PySem.W.findIn K (.ref CLot) "value" = some none) (n3 : PySem.W.findIn K (.ref CUnd) "what" = some none)
    (L1 : Cal P w K mg base (L2N.CX P w) 5 "lot_ladder" ["net", "p", "lot"] (spLad K C CNum CLot CUnd))
    {fA : Addr} {fdA : FuncData} (okA : R4.FnP P w K mg base 2 fA fdA ["_law_e", "_law_kind"] (lift (spAlone K c cS))) (gA : mg "_law_alone" = some (.ref fA)) (kA : PySem.W.keepIn K (.ref fA) = true) (bA : Binds K fdA ["_law_e", "_law_kind"] [])
    {fS : Addr} {fdS : FuncData} (okS : FnH P w K mg base CX0 4 fS fdS ["_law_told_here", "_law_due"] (spSame K 3)) (gS : mg "_law_same" = some (.ref fS)) (kS : PySem.W.keepIn K (.ref fS) = true) (bS : Binds K fdS ["_law_told_here", "_law_due"] []) :
    FnOk P w K mg base CX0 (j + 6) f fd ["_law_helper", "_law_p", "_law_lot", "_law_kind", "_law_due"] (spRef K C) := by
  obtain ⟨fL, fdL, okL, gL, kL, bL⟩ := L1.ex
  refine F.ok scRef (fun vs H Q E h => ?_) (fun cdv A outer s H vs Q E hr h => ?_)
  · obtain ⟨h, vp, vl, due, dp, dl, dd, n, k, arcs, rfl, _⟩ := h; rfl
  · obtain ⟨h, vp, vl, due, dp, dl, dd, n, k, arcs, rfl, hN, hdp, hdl, hz, hdd, hok, hc, q⟩ := h
    have hrS : ∀ a : Addr, RoomH (j + 5) ((A.deeper (envOfC "_law_refused" (defScope sRef) s.heap.objs.size f cdv)).mark (some (.ref a))) := fun a => ⟨hr.dp, hr.un⟩
    have hotS : ∀ (a : Addr) (oe : Obj) (cls : Value) (d : Option Addr), L2N.Zn cls d oe → (∃ vs, oe.data = .fields vs) → Hot1 ((A.deeper (envOfC "_law_refused" (defScope sRef) s.heap.objs.size f cdv)).mark (some (.ref a))) (a, oe) := fun a oe cls d hz hf => by
      obtain ⟨vs, hd⟩ := hf
      exact ⟨rfl, vs, hd, hz.2.2 vs hd⟩
    refine ⟨_, pss_cons (L2N.ps_try_as (i := 5) rfl rfl scRef.nd rfl rfl ⟨rfl, by decide, .inl N.say⟩ takesN0 (fun W pn xe tk _ => pss_one (ps_expr (pe_callS okL (hr.mono (by omega)) (by rfl) gL kL bL (fun σ => L2N.passAt tk σ) (pa_cons (pv 0) (pa_cons (pv 1) (pa_cons (pv 2) pa_nil))))))
      (fun a oe cls d pn hz hf =>
        pss_cons (ps_if (pt_not (pt_val (PE.conv (t' := R4.tCallP (spAlone K c cS a cls d) (tCons (tVar 5) (tCons (tVar 3) tNil))) (R4.pe_callP okA ((hrS a).mono (by omega)) (hotS a oe cls d hz hf) List.mem_cons_self (by rfl) gA kA bA (pa_cons (pv 5) (pa_cons (pv 3) pa_nil)))
          (fun σ H Q h => by
            obtain ⟨v1, e1, v2, e2, q⟩ := h
            exact ⟨v1, e1, v2, e2, cls, d, hz.zc, hf, q⟩)))) (pss_one (ps_ret pe_bl)) pss_nil)
        (pss_cons (ps_if (pt_cmpR op_eq (pv 3) pe_int (nomark _)) (pss_one (ps_ret (pe_callH (E := fun _ => E0) okS ((hrS a).mono (by omega)) ⟨(a, oe), hotS a oe cls d hz hf, List.mem_cons_self⟩ (by rfl) gS kS bS (fun _ _ _ _ _ _ _ h => h.elim) (pa_cons (pe_xf X3.xf n3 hz.zc hf (pv 5)) (pa_cons (pv 4) pa_nil))))) pss_nil)
        (pss_one (ps_ret (pe_callH (E := fun _ => E0) okS ((hrS a).mono (by omega)) ⟨(a, oe), hotS a oe cls d hz hf, List.mem_cons_self⟩ (by rfl) gS kS bS (fun _ _ _ _ _ _ _ h => h.elim) (pa_cons (pe_xf (C := pick CNum CLot cls) (pick_or cls X1.xf X2.xf) (pick_or (p := fun D => PySem.W.findIn K (.ref D) "value" = some none) cls n1 n2) hz.zc hf (pv 5)) (pa_cons (pv 4) pa_nil))))))))
      (pss_one (ps_ret pe_bl)), ?_⟩
    refine ⟨.ref h, rfl, vp, rfl, vl, rfl, h, vp, vl, dp, dl, n, arcs, rfl, hN, hdp, hdl, hz, ?_⟩
    cases hc with
    | num hF =>
      exact ⟨fun _ dx H' g e => ⟨true, X1.exm, fun _ a ha => ⟨.ref a, rfl, .int 0, rfl, CNum, dx, 0, [("value", vp)], rfl, X1.kd, rfl, rfl, e, fun H2 g2 => ⟨true, rfl, iteF ⟨.int 0, rfl, rfl, _, rfl, iteF ⟨.ref a, rfl, rfl, (by rw [pick_num]), dx, [("value", vp)], vp, rfl, g2.keep dx _ (by simp) e (fun _ z => nomatch z), rfl, due, rfl, vp, due, _, rfl, Dp.gr (g.trans g2) hdp, Dp.gr (g.trans g2) hdd, hok, fun H3 g3 => q H3 ((g.trans g2).trans g3)⟩⟩⟩⟩, fun z => nomatch z⟩,
        fun hF2 => absurd hF2 (by rw [hF]; decide), fun hF2 => absurd hF2 (by rw [hF]; decide), fun hF2 => absurd hF2 (by rw [hF]; decide)⟩
    | lot hF hl =>
      exact ⟨fun hF2 => absurd hF (by rw [hF2]; decide), fun _ _ dx H' g e => ⟨true, X2.exm, fun _ a ha => ⟨.ref a, rfl, .int 4, rfl, CLot, dx, 4, [("value", vl)], rfl, X2.kd, rfl, rfl, e, fun H2 g2 => ⟨true, rfl, iteF ⟨.int 4, rfl, rfl, _, rfl, iteF ⟨.ref a, rfl, rfl, (by rw [pick_lot]), dx, [("value", vl)], vl, rfl, g2.keep dx _ (by simp) e (fun _ z => nomatch z), rfl, due, rfl, vl, due, _, rfl, Dp.gr (g.trans g2) hdl, Dp.gr (g.trans g2) hdd, hok, fun H3 g3 => q H3 ((g.trans g2).trans g3)⟩⟩⟩⟩, fun z => nomatch z⟩,
        fun _ l _ hl2 => absurd hl2 (by rw [hl]; decide), fun _ l st _ hl2 => absurd hl2 (by rw [hl]; decide)⟩
    | und l0 hF el hl ht =>
      subst el
      refine ⟨fun hF2 => absurd hF (by rw [hF2]; decide), fun _ hl2 => absurd hl (by rw [hl2]; decide), fun _ l el2 _ _ dx H' g e => ⟨true, X3.exm, fun _ a ha => ⟨.ref a, rfl, .int 13, rfl, CUnd, dx, 13, [("what", (.str "ladder"))], rfl, X3.kd, rfl, rfl, e, fun H2 g2 => ⟨true, rfl, iteF ⟨.int 13, rfl, rfl, _, rfl, iteT ⟨.ref a, rfl, rfl, rfl, dx, [("what", (.str "ladder"))], (.str "ladder"), rfl, g2.keep dx _ (by simp) e (fun _ z => nomatch z), rfl, due, rfl, (.str "ladder"), due, _, rfl, .str _, Dp.gr (g.trans g2) hdd, hok, fun H3 g3 => q H3 ((g.trans g2).trans g3)⟩⟩⟩⟩, fun z => nomatch z⟩, fun _ l st el2 _ ht2 => ?_⟩
      have e : l0 = l := by
        have e : l0.map PyData.int = l.map PyData.int := PyData.tuple.inj el2
        exact ((List.map_inj_right (fun a b h => PyData.int.inj h)).mp e)
      rw [← e, ht] at ht2
      cases ht2
end
end Lk

namespace Lk
open PySem PySem.Spec PyProof.Rows L2 GxR RZ L2H
theorem okD_row {r : List Int} (h : r.length ≤ 1000) : okD 1 (rowD r) := by
  refine ⟨by show (r.map PyData.int).length ≤ 1000; rw [List.length_map]; exact h, fun x hx => ?_⟩
  obtain ⟨i, _, rfl⟩ := List.mem_map.mp (show x ∈ r.map PyData.int from hx)
  rfl
theorem okD_tup {k : Nat} {ds : List PyData} (h : ds.length ≤ 1000) (hd : ∀ d ∈ ds, okD k d) : okD (k + 1) (.tuple ds) := ⟨h, hd⟩
theorem okD_lad {n : Nat} {l st : List Int} (hn : n ≤ 9) (hs : st.length ≤ 1000) : okD 3 (ladD n l st) := by
  refine okD_tup (by show 2 ≤ 1000; decide) fun d hd => ?_
  simp only [List.mem_cons, List.not_mem_nil, or_false] at hd
  rcases hd with rfl | rfl
  · refine okD_tup ?_ fun d hd => ?_
    · rw [List.length_map]
      have := uS_len n fun i => decide ((i : Int) ∉ l)
      exact Nat.le_trans this (by omega)
    · obtain ⟨r, hr, rfl⟩ := List.mem_map.mp hd
      obtain ⟨i, _, rfl⟩ := List.mem_map.mp hr
      exact okD_row (by rw [show (unitR n [(i : Int)]).length = n from uRow_len n i]; omega)
  · refine okD_tup (by rw [List.length_map]; exact hs) fun d hd => ?_
    obtain ⟨i, _, rfl⟩ := List.mem_map.mp hd
    exact okD_row (by show 2 ≤ 1000; decide)
theorem lotB_of {l : List Int} {n : Nat} (hr : risB l = true) (hin : ∀ i ∈ l, 0 ≤ i ∧ i < (n : Int)) : lotB (intsD l) n = true := by
  show ((l.map PyData.int).all (fun d => isB d n) && risB ((l.map PyData.int).map iOf)) = true
  have e : (l.map PyData.int).map iOf = l := by
    rw [List.map_map]
    conv => rhs; rw [← List.map_id l]
    exact List.map_congr_left fun _ _ => rfl
  rw [e, hr, Bool.and_true, List.all_eq_true]
  intro d hd
  obtain ⟨i, hi, rfl⟩ := List.mem_map.mp hd
  exact isB_of (hin i hi).1 (hin i hi).2
theorem passN0 {P : Program} {w : World} {X : Cx} : Passes (L2N.CX P w) X E0 := fun _ _ _ _ _ _ _ h => by
  obtain ⟨_, _, _, _, _, _, _, _, _, _, _, _, z⟩ := h
  exact z.elim
section
variable {P : Program} {w : World} {K : PySem.W.Frag} {mg : Str → Option Value} {base : Heap} {c : Nat → Addr} {cS : Addr}
abbrev sTold : Stmt := top 66
theorem scTold : FnScope ["_law_net", "_law_helper", "_law_p", "_law_lot", "_law_steps", "_law_outside", "_law_told_here", "_law_j", "_law_i"] ["_law_net", "_law_helper", "_law_p", "_law_lot"] (defScope sTold) := ⟨rfl, rfl, rfl, by decide +kernel, rfl, by decide +kernel, by decide +kernel⟩
def spTold (K : PySem.W.Frag) (CN T1 T2 T3 : Addr) : Sp := fun vs H Q _ => ∃ (nv lv : V) (h : Addr) (p n : Nat) (arcs : List (Int × Int)) (l : List Int), vs = [nv, .ref h, .int p, lv] ∧ Tp K H nv (netD n arcs) ∧ NetAt K CN H h n arcs ∧ isF (.int p) = true ∧ Tp K H lv (intsD l) ∧ risB l = true ∧ (∀ i ∈ l, 0 ≤ i ∧ i < (n : Int)) ∧ l.length ≤ 1000 ∧
  TabG H T1 ∧ TabG H T2 ∧ TabG H T3 ∧ ∀ H', Gr none H H' → Q (.bl true) H'
theorem ok_told {f CN CA CNum CLot CUnd T1 T2 T3 : Addr} {fd : FuncData} {j : Nat} (F : Fun K "_law_told" "_law_told" sTold f fd) (B : Bi mg)
    (L1 : Cal P w K mg base CX0 1 "_law_taken" ["_law_net", "_law_lot"] (spTaken K)) (L2 : Cal P w K mg base CX0 6 "_law_refused" ["_law_helper", "_law_p", "_law_lot", "_law_kind", "_law_due"] (spRef K CN))
    (L3 : Cal P w K mg base (L2N.CX P w) 5 "lot_ladder" ["net", "p", "lot"] (spLad K CN CNum CLot CUnd)) (L4 : Cal P w K mg base CX0 4 "_law_same" ["_law_told_here", "_law_due"] (spSame K 3)) (L5 : Cal P w K mg base CX0 6 "ladder_holds" ["audience", "ladder"] (spHolds K CA T1 T2))
    (clN : Cls K CN) {fU : Addr} {fdU : FuncData} (mU : Meth K CN "audience" fU) (okU : FnOk P w K mg base CX0 10 fU fdU ["self", "p"] (spAudience K CN CA T1 T2 T3)) (bU : Binds K fdU ["self", "p"] []) :
    FnOk P w K mg base CX0 (j + 11) f fd ["_law_net", "_law_helper", "_law_p", "_law_lot"] (spTold K CN T1 T2 T3) := by
  obtain ⟨fT, fdT, okT, gT, kT, bT⟩ := L1.ex
  obtain ⟨fR, fdR, okR, gR, kR, bR⟩ := L2.ex
  obtain ⟨fL, fdL, okL, gL, kL, bL⟩ := L3.ex
  obtain ⟨fS, fdS, okS, gS, kS, bS⟩ := L4.ex
  obtain ⟨fH, fdH, okH, gH, kH, bH⟩ := L5.ex
  refine F.ok scTold (fun vs H Q E h => ?_) (fun cdv A outer s H vs Q E hr h => ?_)
  · obtain ⟨nv, lv, h, p, n, arcs, l, rfl, _⟩ := h; rfl
  · obtain ⟨nv, lv, h, p, n, arcs, l, rfl, hnv, hN, hF, hlv, hri, hin, hlen, t1, t2, t3, q⟩ := h
    refine ⟨_, pss_cons (ps_set (i := 4) scTold.nd rfl (Or.inl rfl) (pe_call okT (hr.mono (by omega)) (by rfl) gT kT bT .nil pass0 (pa_cons (pv 0) (pa_cons (pv 3) pa_nil))))
      (pss_cons (ps_if (pt_cmpR op_isN (pv 4) pe_non (nomark _)) (pss_one (ps_ret (pe_call okR (hr.mono (by omega)) (by rfl) gR kR bR .nil pass0 (pa_cons (pv 1) (pa_cons (pv 2) (pa_cons (pv 3) (pa_cons pe_int (pa_cons pe_str pa_nil)))))))) pss_nil)
      (pss_cons (ps_set (i := 5) scTold.nd rfl (Or.inl rfl) (pe_callTy call_tuple_of (by rfl) B.tuple (by decide +kernel) (pa_cons
          (pe_lc (own := [("_law_i", 8)]) (g := gName 8) rfl scTold.nd (pi_range1 (by rfl) B.range (pa_cons (pe_ix ix_tup (pv 0) pe_int (fun _ _ => rfl)) pa_nil))
            (bk (N := ["_law_net", "_law_helper", "_law_p", "_law_lot", "_law_steps", "_law_outside", "_law_told_here", "_law_j", "_law_i"]) (defScope sTold) (by decide +kernel)) (fun _ _ _ _ _ => pg_name (i := 8) scTold.nd rfl (Or.inr rfl))
            (fun _ _ _ _ _ => pts_one (pt_cmpR (op_notInK (K := K)) (pv 8) (pv 3) (by rfl)))
            (fun _ _ _ _ _ => pe_callTy (call_tuple_ofK (K := K)) (by rfl) B.tuple (by decide +kernel) (pa_cons (pe_lc (own := [("_law_j", 7)]) (g := gName 7) (tt := tYes) rfl scTold.nd (pi_range1 (by rfl) B.range (pa_cons (pe_ix (ix_tupK (K := K)) (pv 0) pe_int (fun _ _ => rfl)) pa_nil))
              (bk (N := ["_law_net", "_law_helper", "_law_p", "_law_lot", "_law_steps", "_law_outside", "_law_told_here", "_law_j", "_law_i"]) { kind := .function, names := [(".0", .local), ("_law_i", .cell), ("tuple", .globalImplicit), ("range", .globalImplicit), ("_law_lot", .cell), ("_law_net", .cell)], isGenerator := false, isCoroutine := false } (by decide +kernel)) (fun _ _ _ _ _ => pg_name (i := 7) scTold.nd rfl (Or.inl rfl)) (fun _ _ _ _ _ => pts_nil)
              (fun _ _ _ _ _ => pe_callTy call_int1 (by rfl) B.int (by decide +kernel) (pa_cons (pe_cmpR op_eq (pv 7) (pv 8) (nomark _)) pa_nil))) pa_nil))) pa_nil)))
      (pss_cons (ps_set (i := 6) scTold.nd rfl (Or.inl rfl) (pe_call okL (hr.mono (by omega)) (by rfl) gL kL bL .nil passN0 (pa_cons (pv 1) (pa_cons (pv 2) (pa_cons (pv 3) pa_nil)))))
      (pss_one (ps_ret (pe_and (pe_call okS (hr.mono (by omega)) (by rfl) gS kS bS .nil pass0 (pa_cons (pv 6) (pa_cons (pe_tup (pa_cons (pv 5) (pa_cons (pv 4) pa_nil))) pa_nil)))
        (pe_one (pe_cmpR op_isBl (pe_call okH (hr.mono (by omega)) (by rfl) gH kH bH .nil pass0 (pa_cons (pe_meth (pv 1) clN mU okU (hr.mono (by omega)) bU .nil pass0 (pa_cons (pv 2) pa_nil)) (pa_cons (pv 6) pa_nil))) pe_bl (nomark _))))))))), ?_⟩
    have hlb := lotB_of hri hin
    have hdl : ∀ ds, intsD l = .tuple ds → ds.length ≤ 1000 := fun ds e => by
      cases e
      rw [List.length_map]; exact hlen
    obtain ⟨nt, nxs, rfl, hns, hnx⟩ := hnv.tuple
    obtain ⟨v0, hv0, tv0⟩ := hnx.get' (i := 0) (d := .int n) rfl
    have ev0 := tv0.intV
    subst ev0
    have h9 := hN.hi
    refine ⟨.ref nt, rfl, lv, rfl, .ref nt, lv, n, arcs, l, rfl, hnv, hN.ok.len, hlv, hlen, fun ht H1 g1 => ?_, fun st ht a H1 g1 tst => ?_⟩
    · refine ⟨.non, rfl, rfl, _, rfl, iteT ⟨.ref h, rfl, .int p, rfl, lv, rfl, h, .int p, lv, .str "ladder", .int p, intsD l, .str "ladder", n, 13, arcs, rfl, hN.gr0 g1, .int _, (hlv.gr0 g1).dp, hdl, .str _, ⟨Nat.zero_le _, fun x hx => absurd hx (by simp [items])⟩, .und l hF rfl hlb ht, fun H' g => q H' (g1.trans g)⟩⟩
    refine ⟨.ref a, rfl, rfl, _, rfl, iteF ?_⟩
    obtain ⟨la, elv, hla⟩ := hlv.ints
    subst elv
    -- outside
    refine ⟨.ref nt, rfl, nt, nxs, 0, .int n, rfl, rfl, g1.sqT .none hns, atI_nat (j := 0) hv0, n, rfl, by omega, by omega, fun D hD => ?_⟩
    refine lcR (K := K) (n := n) (by omega) hD (fun i => decide ((i : Int) ∉ l)) (fun (i : Nat) => rowD (uRow n i)) (fun i H2 Acc No hi g2 hac hno => ?_) (fun H2 ys g2 e2 t2' => ?_)
    · have gg := g1.trans g2
      refine ⟨rfl, .int (0 + i), rfl, .ref la, rfl, la, _, rfl, .inr (gg.sqT .none hla), rfl, flat_ints l, _, rfl, ?_⟩
      have e : (if true = true then !inV (.int (0 + (i : Int))) (l.map V.int) else inV (.int (0 + (i : Int))) (l.map V.int)) = decide ((i : Int) ∉ l) := by
        rw [if_pos rfl, inV_ints, Int.zero_add, decide_not]
      rw [e]
      refine ite2 (fun z => ?_) (fun z => hno (by rw [Bool.not_eq_true] at z; exact z) _ Gr.refl)
      refine ⟨.ref nt, rfl, nt, nxs, 0, .int n, rfl, rfl, gg.sqT .none hns, atI_nat (j := 0) hv0, n, rfl, by omega, by omega, fun D2 hD2 => ?_⟩
      refine lcR (K := K) (n := n) (by omega) hD2 (fun _ => true) (fun j => .int (if (j : Int) ∈ [(i : Int)] then 1 else 0)) (fun j H3 Acc2 No2 hj g3 hac2 _ => ?_) (fun H3 ys3 g3 e3 t3' => ?_)
      · refine ⟨rfl, .int (0 + j), rfl, .int (0 + i), rfl, rfl, .inr ⟨_, rfl, ?_⟩⟩
        refine hac2 rfl _ _ Gr.refl ?_
        by_cases hh : (j : Int) ∈ [(i : Int)]
        · rw [if_pos hh]
          have : j = i := by
            have hh2 : (j : Int) = (i : Int) := by simpa using hh
            omega
          subst this
          simp
          exact .int _
        · rw [if_neg hh]
          have : ¬ (j : Int) = (i : Int) := by simpa using hh
          simp [this]
          exact .int _
      · rw [List.filter_eq_self.mpr (fun _ _ => rfl)] at t3'
        refine ⟨D2, ys3, rfl, .inl ⟨SqL.of e3, fun z2 hz2 => hac z _ _ (g3.trans (Gr.new hz2)) ?_⟩⟩
        have := tp_tuple (D := D) hz2 t3'
        unfold uRow unitR
        rw [rowD, List.map_map]
        exact this
    refine ⟨D, ys, rfl, .inl ⟨SqL.of e2, fun oz hoz => ?_⟩⟩
    have tout : Tp K (upd H2 oz (.tup ys)) (.ref oz) (matD (outR n l)) := by
      have := tp_tuple (D := D) hoz t2'
      unfold matD outR
      rw [List.map_map]
      exact this
    have g3 : Gr none H (upd H2 oz (.tup ys)) := (g1.trans g2).trans (Gr.new hoz)
    have tst3 : Tp K (upd H2 oz (.tup ys)) (.ref a) (stD st) := tst.gr0 (g2.trans (Gr.new hoz))
    generalize upd H2 oz (.tup ys) = H3 at *
    -- lot_ladder
    obtain ⟨hstl, hstm⟩ := take_mem _ _ _ ht
    refine ⟨.ref h, rfl, .int p, rfl, .ref la, rfl, h, .int p, .ref la, .int p, intsD l, n, arcs, rfl, hN.gr0 g3, .int _, (hlv.gr0 g3).dp, hdl, ⟨fun hF2 => absurd hF2 (by rw [hF]; decide), fun _ hl2 => absurd hl2 (by rw [hlb]; decide), fun _ l2 el2 _ ht2 => ?_, fun _ l2 st2 el2 _ ht2 tv H4 g4 ttv => ?_⟩⟩
    · have e : l = l2 := ((List.map_inj_right (fun a b h => PyData.int.inj h)).mp (PyData.tuple.inj el2 : l.map PyData.int = l2.map PyData.int))
      rw [← e, ht] at ht2
      cases ht2
    have e : l = l2 := ((List.map_inj_right (fun a b h => PyData.int.inj h)).mp (PyData.tuple.inj el2 : l.map PyData.int = l2.map PyData.int))
    subst e
    rw [ht] at ht2
    cases ht2
    -- the same, and it holds
    refine ⟨tv, rfl, .ref oz, rfl, .ref a, rfl, by show 2 ≤ sizeLine; decide, fun t ht3 => ?_⟩
    have g5 : Gr none H4 (upd H4 t (.tup [.ref oz, .ref a])) := Gr.new ht3
    have tlad : Tp K (upd H4 t (.tup [.ref oz, .ref a])) (.ref t) (ladD n l st) := .tup (.inl (.inl upd_same)) (.cons (tout.gr0 (g4.trans g5)) (.cons (tst3.gr0 (g4.trans g5)) .nil))
    have ttv5 := ttv.gr0 g5
    have gg := (g3.trans g4).trans g5
    generalize upd H4 t (.tup [.ref oz, .ref a]) = H5 at *
    refine ⟨tv, .ref t, ladD n l st, rfl, ttv5.dp, tlad.dp, okD_lad h9 (by omega), fun H6 g6 => ⟨true, rfl, iteT ?_⟩⟩
    have g16 := gg.trans g6
    have hN6 := hN.gr0 g16
    obtain ⟨c1, c2, c3, c4, c5, c6, c7, dx, fs, kv, f1, f2, f3, f4, tk⟩ := hN6
    refine ⟨.ref h, rfl, h, dx, fs, rfl, f1, f4, .int p, rfl, h, p, n, arcs, rfl, hN.gr0 g16, hF, g16.tabG t1, g16.tabG t2, g16.tabG t3, fun H7 au g7 hA => ?_⟩
    have g17 := g16.trans g7
    refine ⟨tv, rfl, au, tv, p, n, arcs, l, st, rfl, hA, hF, h9, hN.ok, ttv5.gr0 (g6.trans g7), ht, hin, g17.tabG t1, g17.tabG t2, fun H8 g8 => ⟨true, true, rfl, rfl, ?_⟩⟩
    exact q H8 (g17.trans g8)
end
end Lk

namespace Lk
open PySem PySem.Spec PyProof.Rows L2 GxR RZ L2H
theorem Gr.make {H H' : Hp} {x dx : Addr} {o : HO} (nx : H x = none) (ndx : H dx = none) (nex : dx ≠ x) (g4 : Gr (some x) (upd (upd H dx (.own x)) x o) H') : Gr none H H' := by
  have g2 : Gr none H (upd H dx (.own x)) := Gr.new ndx
  have nx2 : (upd H dx (.own x)) x = none := by rw [upd_ne (Ne.symm nex)]; exact nx
  have gg : Gr none H (upd (upd H dx (.own x)) x o) := g2.trans (Gr.new nx2)
  refine ⟨fun b o _ hb nt => g4.keep b o (fun z => by cases z; rw [nx] at hb; cases hb) (gg.keep b o (by simp) hb nt) nt, fun b ps hb => ?_⟩
  obtain ⟨p1, w1, w2⟩ := gg.tab b ps hb
  obtain ⟨p2, w3, w4⟩ := g4.tab b p1 w1
  exact ⟨p2, w3, fun z => w4 (w2 z)⟩
theorem risB_snoc : ∀ {l : List Int} {i : Int}, risB l = true → (∀ x ∈ l, x < i) → risB (l ++ [i]) = true
  | [], _, _, _ => rfl
  | [x], i, _, h => by
    show (decide (x < i) && true) = true
    rw [decide_eq_true (h x (by simp))]; rfl
  | x :: y :: r, i, h, hi => by
    have h' : (decide (x < y) && risB (y :: r)) = true := h
    rw [Bool.and_eq_true] at h'
    have ih := risB_snoc (l := y :: r) h'.2 fun z hz => hi z (List.mem_cons_of_mem _ hz)
    show (decide (x < y) && risB ((y :: r) ++ [i])) = true
    rw [h'.1, ih]; rfl
/-- between two statements of law -/
structure LS (K : PySem.W.Frag) (CN a h T1 T2 T3 nt : Addr) (n : Nat) (arcs : List (Int × Int)) (H : Hp) : Prop where
  po : ∃ ns : List Int, H a = some (.lst (ns.map V.int))
  net : NetAt K CN H h n arcs
  nd : Tp K H (.ref nt) (netD n arcs)
  t1 : TabG H T1
  t2 : TabG H T2
  t3 : TabG H T3
  ne : h ≠ a
section
variable {K : PySem.W.Frag} {CN a h T1 T2 T3 nt : Addr} {n : Nat} {arcs : List (Int × Int)} {H H' : Hp}
theorem LS.draw {ns' : List Int} (s : LS K CN a h T1 T2 T3 nt n arcs H) (g : Gr (some a) H H') (e : H' a = some (.lst (ns'.map V.int))) : LS K CN a h T1 T2 T3 nt n arcs H' := by
  obtain ⟨ns, hp⟩ := s.po
  exact ⟨⟨ns', e⟩, s.net.gr g (fun z => s.ne (Option.some.inj z)) (.lst hp), s.nd.gr g (.lst hp), g.tabG s.t1, g.tabG s.t2, g.tabG s.t3, s.ne⟩
theorem LS.gr0 (s : LS K CN a h T1 T2 T3 nt n arcs H) (g : Gr none H H') : LS K CN a h T1 T2 T3 nt n arcs H' := by
  obtain ⟨ns, hp⟩ := s.po
  exact s.draw g.any (g.lst hp)
theorem LS.tp {v : V} {d : PyData} (s : LS K CN a h T1 T2 T3 nt n arcs H) (g : Gr (some a) H H') (t : Tp K H v d) : Tp K H' v d := by
  obtain ⟨ns, hp⟩ := s.po
  exact t.gr g (.lst hp)
theorem LS.nea {t : Addr} (s : LS K CN a h T1 T2 T3 nt n arcs H) (ht : H t = none) : t ≠ a := fun z => by
  obtain ⟨ns, hp⟩ := s.po
  rw [z, hp] at ht
  cases ht
theorem LS.n0 (s : LS K CN a h T1 T2 T3 nt n arcs H) : ∃ nxs, SqT K H nt nxs ∧ atI nxs 0 = some (.int n) := by
  obtain ⟨nt', nxs, e, hns, hnx⟩ := s.nd.tuple
  cases e
  obtain ⟨v0, hv0, tv0⟩ := hnx.get' (i := 0) (d := .int n) rfl
  rw [tv0.intV] at hv0
  exact ⟨nxs, hns, atI_nat (j := 0) hv0⟩
/-- the heap without the pool -/
theorem del_gr {x : Addr} (g : Gr (some x) H H') : Gr none (del H x) (del H' x) := by
  refine ⟨fun b o _ hb nt => ?_, fun b ps hb => ?_⟩
  · have hbx : b ≠ x := fun z => by rw [z, del_same] at hb; cases hb
    rw [del_ne hbx] at hb ⊢
    exact g.keep b o (fun z => hbx (Option.some.inj z)) hb nt
  · have hbx : b ≠ x := fun z => by rw [z, del_same] at hb; cases hb
    rw [del_ne hbx] at hb ⊢
    exact g.tab b ps hb
theorem del_un {x : Addr} : Gr none (del H x) H := by
  refine ⟨fun b o _ hb nt => ?_, fun b ps hb => ?_⟩
  · have hbx : b ≠ x := fun z => by rw [z, del_same] at hb; cases hb
    rw [del_ne hbx] at hb
    exact hb
  · have hbx : b ≠ x := fun z => by rw [z, del_same] at hb; cases hb
    rw [del_ne hbx] at hb
    exact ⟨ps, hb, id⟩
theorem del_at {x b : Addr} {o : HO} (e : H b = some o) (ne : b ≠ x) : del H x b = some o := by rw [del_ne ne]; exact e
def rCatD (K : PySem.W.Frag) : R2 := fun x y H Q => ∃ l m : List Int, Tp K H x (intsD l) ∧ Tp K H y (intsD m) ∧ m ≠ [] ∧ l.length + m.length ≤ 1000 ∧ ∀ v H', Gr none H H' → Tp K H' v (intsD (l ++ m)) → Q v H'
theorem op_catD {X : Cx} : OpR X (binaryOp .Add) (rCatD X.K) := fun pins s σ H x y v u Q I rx ry h => by
  obtain ⟨l, m, tx, ty, hm, hl, q⟩ := h
  obtain ⟨a, rfl, ha⟩ := tx.ints
  obtain ⟨b, rfl, hb⟩ := ty.ints
  refine op_catA pins s σ H _ _ v u Q I rx ry ⟨a, b, _, _, rfl, rfl, ha, hb, Nat.le_trans (by rw [List.length_map, List.length_map]; exact hl) (show 1000 ≤ sizeLine by decide), fun e => ?_, fun _ e => ?_, fun _ _ p hp => ?_⟩
  · have e2 : l = [] := List.map_eq_nil_iff.mp e
    subst e2
    exact q _ _ Gr.refl ty
  · exact absurd (List.map_eq_nil_iff.mp e) hm
  · refine q _ _ (Gr.new hp) (.tup (.inl (.inl upd_same)) ?_)
    rw [← List.map_append]
    exact TpAll.of_ints
end
def oddL : List PyData := [.none, .bool true, .int 0, .int 1, .int 4, .int 9, .int 17, .str "2", .tuple [.int 2], .list [.int 3]]
def badL (n : Nat) : List PyData := [.none, .list [.int 0], .tuple [.int 0, .int 0], .tuple [.int n], .tuple [.int (-1)], .tuple [.bool true], .tuple [.none], .str "0", .int 3, .tuple [.tuple [.int 0]], .tuple [.int ((n : Int) - 1), .int 0], .tuple [.int 1, .int 0]]
theorem okD0 {k : Nat} {d : PyData} (h : isSq d = false) : okD k d := by
  cases k with
  | zero => exact h
  | succ k =>
    have : items d = [] := by cases d <;> first | rfl | exact Bool.noConfusion h
    refine ⟨by rw [this]; exact Nat.zero_le _, fun x hx => ?_⟩
    rw [this] at hx
    cases hx
theorem okD1 {k : Nat} {d x : PyData} (h : items d = [x]) (hx : okD k x) : okD (k + 1) d := ⟨by rw [h]; exact (by decide : 1 ≤ 1000), fun y hy => by rw [h, List.mem_singleton] at hy; rw [hy]; exact hx⟩
theorem okD2 {k : Nat} {d x y : PyData} (h : items d = [x, y]) (hx : okD k x) (hy : okD k y) : okD (k + 1) d := ⟨by rw [h]; exact (by decide : 2 ≤ 1000), fun z hz => by
  rw [h] at hz
  simp only [List.mem_cons, List.not_mem_nil, or_false] at hz
  rcases hz with e | e
  · rw [e]; exact hx
  · rw [e]; exact hy⟩
theorem odd_ok : ∀ d ∈ oddL, isF d = false ∧ okD 3 d := by
  intro d hd
  simp only [oddL, List.mem_cons, List.not_mem_nil, or_false] at hd
  rcases hd with rfl | rfl | rfl | rfl | rfl | rfl | rfl | rfl | rfl | rfl
  · exact ⟨rfl, okD0 rfl⟩
  · exact ⟨rfl, okD0 rfl⟩
  · exact ⟨rfl, okD0 rfl⟩
  · exact ⟨rfl, okD0 rfl⟩
  · exact ⟨rfl, okD0 rfl⟩
  · exact ⟨rfl, okD0 rfl⟩
  · exact ⟨rfl, okD0 rfl⟩
  · exact ⟨rfl, okD0 rfl⟩
  · exact ⟨rfl, okD1 rfl (okD0 rfl)⟩
  · exact ⟨rfl, okD1 rfl (okD0 rfl)⟩
theorem isB_big {n : Nat} : isB (.int n) n = false := by
  show (decide (0 ≤ (n : Int)) && decide ((n : Int) < n)) = false
  rw [decide_eq_false (Int.lt_irrefl _), Bool.and_false]
theorem bad_ok {n : Nat} (h1 : 1 ≤ n) : ∀ d ∈ badL n, lotB d n = false ∧ okD 3 d ∧ ∀ ds, d = .tuple ds → ds.length ≤ 1000 := by
  intro d hd
  simp only [badL, List.mem_cons, List.not_mem_nil, or_false] at hd
  rcases hd with rfl | rfl | rfl | rfl | rfl | rfl | rfl | rfl | rfl | rfl | rfl | rfl
  · exact ⟨rfl, okD0 rfl, fun ds e => by cases e⟩
  · exact ⟨rfl, okD1 rfl (okD0 rfl), fun ds e => by cases e⟩
  · refine ⟨?_, okD2 rfl (okD0 rfl) (okD0 rfl), fun ds e => by cases e; decide⟩
    show (_ && false) = false
    rw [Bool.and_false]
  · refine ⟨?_, okD1 rfl (okD0 rfl), fun ds e => by cases e; exact (by decide : 1 ≤ 1000)⟩
    show ((isB (.int n) n && true) && true) = false
    rw [isB_big]; rfl
  · exact ⟨rfl, okD1 rfl (okD0 rfl), fun ds e => by cases e; decide⟩
  · exact ⟨rfl, okD1 rfl (okD0 rfl), fun ds e => by cases e; decide⟩
  · exact ⟨rfl, okD1 rfl (okD0 rfl), fun ds e => by cases e; decide⟩
  · exact ⟨rfl, okD0 rfl, fun ds e => by cases e⟩
  · exact ⟨rfl, okD0 rfl, fun ds e => by cases e⟩
  · exact ⟨rfl, okD1 rfl (okD1 rfl (okD0 rfl)), fun ds e => by cases e; decide⟩
  · refine ⟨?_, okD2 rfl (okD0 rfl) (okD0 rfl), fun ds e => by cases e; exact (by decide : 2 ≤ 1000)⟩
    show (_ && (decide ((n : Int) - 1 < 0) && true)) = false
    rw [decide_eq_false (by omega)]
    show (_ && false) = false
    rw [Bool.and_false]
  · refine ⟨?_, okD2 rfl (okD0 rfl) (okD0 rfl), fun ds e => by cases e; decide⟩
    show (_ && false) = false
    rw [Bool.and_false]
section
variable {P : Program} {w : World} {K : PySem.W.Frag} {mg : Str → Option Value} {base : Heap}
abbrev sLaw : Stmt := top 67
theorem scLaw : FnScope ["_law_script", "_law_pool_here", "_law_net", "_law_helper", "_law_p", "_law_k", "_law_lot", "_law_i", "_law_odd", "_law_bad"] ["_law_script"] (defScope sLaw) := ⟨rfl, rfl, rfl, by decide +kernel, rfl, by decide +kernel, by decide +kernel⟩
def spLaw (K : PySem.W.Frag) (T1 T2 T3 : Addr) : Sp := fun vs H Q _ => ∃ (s : Addr) (ns : List Int), vs = [.ref s] ∧ SqL K H s (ns.map V.int) ∧ ns.length ≤ 63 ∧ TabG H T1 ∧ TabG H T2 ∧ TabG H T3 ∧ ∀ H', Q (.bl true) H'
theorem ok_law {f CN T1 T2 T3 fN : Addr} {fd fdN : FuncData} {j : Nat} (F : Fun K "law" "law" sLaw f fd) (B : Bi mg)
    (L1 : Cal P w K mg base CX0 1 "_law_pool" ["_law_script", "_law_many"] (spPool K)) (L2 : Cal P w K mg base CX0 2 "_law_arcs" ["_law_pool_here", "_law_most", "_law_odds"] (spArcs K)) (L3 : Cal P w K mg base CX0 1 "_law_draw" ["_law_pool_here", "_law_many"] spDraw)
    (L4 : Cal P w K mg base CX0 1 "_law_taken" ["_law_net", "_law_lot"] (spTaken K)) (L5 : Cal P w K mg base CX0 11 "_law_told" ["_law_net", "_law_helper", "_law_p", "_law_lot"] (spTold K CN T1 T2 T3))
    (L6 : Cal P w K mg base CX0 6 "_law_refused" ["_law_helper", "_law_p", "_law_lot", "_law_kind", "_law_due"] (spRef K CN))
    (M : Mk K CN fN) (FN : FnOk P w K mg base CX0 4 fN fdN ["self", "size", "arcs"] (spNet K CN)) (bN : Binds K fdN ["self", "size", "arcs"] []) (gN : mg "Net" = some (.ref CN)) :
    FnOk P w K mg base CX0 (j + 12) f fd ["_law_script"] (spLaw K T1 T2 T3) := by
  obtain ⟨fP, fdP, okP, gP, kP, bP⟩ := L1.ex
  obtain ⟨fA, fdA, okA, gA, kA, bA⟩ := L2.ex
  obtain ⟨fD, fdD, okD, gD, kD, bD⟩ := L3.ex
  obtain ⟨fT, fdT, okT, gT, kT, bT⟩ := L4.ex
  obtain ⟨fO, fdO, okO, gO, kO, bO⟩ := L5.ex
  obtain ⟨fR, fdR, okR, gR, kR, bR⟩ := L6.ex
  refine F.ok scLaw (fun vs H Q E h => ?_) (fun cdv A outer s H vs Q E hr h => ?_)
  · obtain ⟨s, ns, rfl, _⟩ := h; rfl
  · obtain ⟨sc, ns, rfl, hS, hlen, t1, t2, t3, q⟩ := h
    refine ⟨_, pss_cons (ps_set (i := 1) scLaw.nd rfl (Or.inl rfl) (pe_call okP (hr.mono (by omega)) (by rfl) gP kP bP .nil pass0 (pa_cons (pv 0) (pa_cons pe_int pa_nil))))
      (pss_cons (ps_set (i := 2) scLaw.nd rfl (Or.inl rfl) (pe_call okA (hr.mono (by omega)) (by rfl) gA kA bA .nil pass0 (pa_cons (pv 1) (pa_cons pe_int (pa_cons pe_int pa_nil)))))
      (pss_cons (ps_set (i := 3) scLaw.nd rfl (Or.inl rfl) (pe_make M FN (hr.mono (by omega)) (by rfl) gN bN .nil pass0 (pa_cons (pe_ix ix_tup (pv 2) pe_int (fun _ _ => rfl)) (pa_cons (pe_ix ix_tup (pv 2) pe_int (fun _ _ => rfl)) pa_nil))))
      (pss_cons (ps_set (i := 4) scLaw.nd rfl (Or.inl rfl) (pe_ix ix_list (pe_lst (pa_cons pe_int (pa_cons pe_int (pa_cons pe_int (pa_cons pe_int (pa_cons pe_int (pa_cons pe_int pa_nil))))))) (pe_call okD (hr.mono (by omega)) (by rfl) gD kD bD .nil pass0 (pa_cons (pv 1) (pa_cons pe_int pa_nil))) (fun _ _ => rfl)))
      (pss_cons (ps_for PassesOwn.never rfl (pi_range1 (by rfl) B.range (pa_cons pe_int pa_nil)) (pg_name (i := 5) scLaw.nd rfl (Or.inl rfl))
        (pss_cons (ps_set (i := 6) scLaw.nd rfl (Or.inl rfl) (pe_tup pa_nil))
        (pss_cons (ps_for PassesOwn.never rfl (pi_range1 (by rfl) B.range (pa_cons (pe_ix ix_tup (pv 2) pe_int (fun _ _ => rfl)) pa_nil)) (pg_name (i := 7) scLaw.nd rfl (Or.inl rfl))
          (pss_one (ps_if (PW.pt (pw_or (PW.pt (pw_and (pt_cmpR op_gt (pv 5) pe_int (nomark _)) (pw_and1 (pt_cmpR op_eq (pe_call okD (hr.mono (by omega)) (by rfl) gD kD bD .nil pass0 (pa_cons (pv 1) (pa_cons pe_int pa_nil))) pe_int (nomark _))))) (pw_or1 (PW.pt (pw_and (pt_cmpR op_lt (pv 5) pe_int (nomark _)) (pw_and1 (pt_cmpR op_notN (pe_call okT (hr.mono (by omega)) (by rfl) gT kT bT .nil pass0 (pa_cons (pv 2) (pa_cons (pe_op op_catD (pv 6) (pe_tup (pa_cons (pv 7) pa_nil))) pa_nil))) pe_non (nomark _))))))))
            (pss_one (ps_if (pt_cmpR op_gt (pe_call okD (hr.mono (by omega)) (by rfl) gD kD bD .nil pass0 (pa_cons (pv 1) (pa_cons pe_int pa_nil))) pe_int (nomark _)) (pss_one (ps_set (i := 6) scLaw.nd rfl (Or.inl rfl) (pe_op op_catD (pv 6) (pe_tup (pa_cons (pv 7) pa_nil))))) pss_nil)) pss_nil)))
        (pss_one (ps_if (pt_not (pt_val (pe_call okO (hr.mono (by omega)) (by rfl) gO kO bO .nil pass0 (pa_cons (pv 2) (pa_cons (pv 3) (pa_cons (pv 4) (pa_cons (pv 6) pa_nil))))))) (pss_one (ps_ret pe_bl)) pss_nil))))
      )
      (pss_cons (ps_set (i := 8) scLaw.nd rfl (Or.inl rfl) (pe_ix ix_list (pe_lst (pa_cons pe_non (pa_cons pe_bl (pa_cons pe_int (pa_cons pe_int (pa_cons pe_int (pa_cons pe_int (pa_cons pe_int (pa_cons pe_str (pa_cons (pe_tup (pa_cons pe_int pa_nil)) (pa_cons (pe_lst (pa_cons pe_int pa_nil)) pa_nil))))))))))) (pe_call okD (hr.mono (by omega)) (by rfl) gD kD bD .nil pass0 (pa_cons (pv 1) (pa_cons pe_int pa_nil))) (fun _ _ => rfl)))
      (pss_cons (ps_set (i := 9) scLaw.nd rfl (Or.inl rfl) (pe_lst (pa_cons pe_non (pa_cons (pe_lst (pa_cons pe_int pa_nil)) (pa_cons (pe_tup (pa_cons pe_int (pa_cons pe_int pa_nil))) (pa_cons (pe_tup (pa_cons (pe_ix ix_tup (pv 2) pe_int (fun _ _ => rfl)) pa_nil)) (pa_cons (pe_tup (pa_cons (pe_un un_neg pe_int) pa_nil)) (pa_cons (pe_tup (pa_cons pe_bl pa_nil)) (pa_cons (pe_tup (pa_cons pe_non pa_nil)) (pa_cons pe_str (pa_cons pe_int (pa_cons (pe_tup (pa_cons (pe_tup (pa_cons pe_int pa_nil)) pa_nil)) (pa_cons (pe_tup (pa_cons (pe_op op_sub (pe_ix ix_tup (pv 2) pe_int (fun _ _ => rfl)) pe_int) (pa_cons pe_int pa_nil))) (pa_cons (pe_tup (pa_cons pe_int (pa_cons pe_int pa_nil))) pa_nil))))))))))))))
      (pss_cons (ps_set (i := 9) scLaw.nd rfl (Or.inl rfl) (pe_ix ix_list (pv 9) (pe_call okD (hr.mono (by omega)) (by rfl) gD kD bD .nil pass0 (pa_cons (pv 1) (pa_cons pe_int pa_nil))) (fun _ _ => rfl)))
      (pss_cons (ps_if (pt_not (pt_val (pe_call okR (hr.mono (by omega)) (by rfl) gR kR bR .nil pass0 (pa_cons (pv 3) (pa_cons (pv 8) (pa_cons (pe_ix ix_list (pe_lst (pa_cons (pe_tup pa_nil) (pa_cons (pv 9) pa_nil))) (pe_call okD (hr.mono (by omega)) (by rfl) gD kD bD .nil pass0 (pa_cons (pv 1) (pa_cons pe_int pa_nil))) (fun _ _ => rfl)) (pa_cons pe_int (pa_cons (pv 8) pa_nil)))))))) (pss_one (ps_ret pe_bl)) pss_nil)
      (pss_one (ps_ret (pe_call okR (hr.mono (by omega)) (by rfl) gR kR bR .nil pass0 (pa_cons (pv 3) (pa_cons (pv 4) (pa_cons (pv 9) (pa_cons pe_int (pa_cons (pv 9) pa_nil)))))))))))))))), ?_⟩
    refine ⟨.ref sc, rfl, sc, ns, rfl, hS, hlen, fun H1 a ps g1 ha0 e1 => ?_⟩
    refine ⟨.ref a, rfl, a, ps, rfl, e1, fun nv H2 n arcs ns2 g2 e2 h1 h9 hok hnd => ?_⟩
    obtain ⟨nt, nxs, rfl, hns, hnx⟩ := hnd.tuple
    obtain ⟨v0, hv0, tv0⟩ := hnx.get' (i := 0) (d := .int n) rfl
    obtain ⟨v1, hv1, tv1⟩ := hnx.get' (i := 1) (d := arcsD arcs) rfl
    have ev0 := tv0.intV
    subst ev0
    refine ⟨.ref nt, rfl, nt, nxs, 0, .int n, rfl, rfl, hns, atI_nat (j := 0) hv0, .ref nt, rfl, nt, nxs, 1, v1, rfl, rfl, hns, atI_nat (j := 1) hv1, fun x dx nx ndx nex => ?_⟩
    have gx2 : Gr none H2 (upd (upd H2 dx (.own x)) x (.ins CN dx [])) := (Gr.new ndx).trans (Gr.new (by rw [upd_ne (Ne.symm nex)]; exact nx))
    refine ⟨x, dx, v1, arcs, n, rfl, upd_same, h1, h9, hok, tv1.gr0 gx2, fun H3 g3 hNet => ⟨rfl, ?_⟩⟩
    have g23 := Gr.make nx ndx nex g3
    have nxa : x ≠ a := fun z => by rw [z, e2] at nx; cases nx
    have g13 : Gr (some a) H H3 := g1.any.trans (g2.trans g23.any)
    have ls0 : LS K CN a x T1 T2 T3 nt n arcs H3 := ⟨⟨ns2, g23.lst e2⟩, hNet, hnd.gr0 g23, g13.tabG t1, g13.tabG t2, g13.tabG t3, nxa⟩
    clear g13 g23 gx2 g3 hnd hns hnx
    -- the prime
    refine ⟨by show 6 ≤ sizeLine; decide, fun pl hpl => ?_⟩
    have ls1 := ls0.gr0 (Gr.new (o := .lst [.int 2, .int 3, .int 5, .int 7, .int 11, .int 13]) hpl)
    have npl := ls0.nea hpl
    have epl : (upd H3 pl (.lst [.int 2, .int 3, .int 5, .int 7, .int 11, .int 13])) pl = some (.lst [.int 2, .int 3, .int 5, .int 7, .int 11, .int 13]) := upd_same
    generalize upd H3 pl (.lst [.int 2, .int 3, .int 5, .int 7, .int 11, .int 13]) = H4 at *
    obtain ⟨ns3, e3⟩ := ls1.po
    refine ⟨.ref a, rfl, a, 6, ns3, rfl, by decide, e3, fun d ns4 H5 d0 d1 g5 e5 => ?_⟩
    have ls5 := ls1.draw g5 e5
    have epl5 := g5.keep pl _ (fun z => npl (Option.some.inj z)) epl (fun _ z => nomatch z)
    obtain ⟨jd, rfl⟩ := Int.eq_ofNat_of_zero_le d0
    obtain ⟨p, ep, hF⟩ : ∃ p : Nat, ([V.int 2, .int 3, .int 5, .int 7, .int 11, .int 13] : List V)[jd]? = some (.int p) ∧ isF (.int p) = true := by
      have : jd < 6 := by omega
      match jd, this with
      | 0, _ => exact ⟨2, rfl, rfl⟩
      | 1, _ => exact ⟨3, rfl, rfl⟩
      | 2, _ => exact ⟨5, rfl, rfl⟩
      | 3, _ => exact ⟨7, rfl, rfl⟩
      | 4, _ => exact ⟨11, rfl, rfl⟩
      | 5, _ => exact ⟨13, rfl, rfl⟩
    refine ⟨pl, _, jd, .int p, rfl, rfl, SqL.of epl5, atI_nat (j := jd) ep, ?_⟩
    -- the four lots
    refine ⟨4, rfl, by decide, by decide, ?_⟩
    refine for_it (walk_range (lo := 0) (n := 4)) (fun k σ H6 => LS K CN a x T1 T2 T3 nt n arcs H6 ∧ ∃ (y5 y6 y7 y8 y9 : Option V), σ = [some (.ref sc), some (.ref a), some (.ref nt), some (.ref x), some (.int p), y5, y6, y7, y8, y9])
      ⟨ls5, none, none, none, none, none, rfl⟩ (fun _ _ _ _ _ => trivial) (fun k xv σ HH H6 hk hP y => ?_) fun σ H6 hP => ?_
    · obtain ⟨ls, y5, y6, y7, y8, y9, rfl⟩ := hP
      obtain ⟨rfl, rfl⟩ := y
      refine ⟨Nat.zero_le _, fun t ht => ?_⟩
      have lst := ls.gr0 (Gr.new (o := .tup []) ht)
      have tl0 : Tp K (upd H6 t (.tup [])) (.ref t) (intsD []) := .tup (.inl (.inl upd_same)) .nil
      generalize upd H6 t (.tup []) = H7 at *
      obtain ⟨nxs, hns, h0⟩ := lst.n0
      refine ⟨.ref nt, rfl, nt, nxs, 0, .int n, rfl, rfl, hns, h0, n, rfl, by omega, by omega, ?_⟩
      refine for_it (walk_range (lo := 0) (n := n)) (fun i σ H8 => LS K CN a x T1 T2 T3 nt n arcs H8 ∧ ∃ (lv : V) (l : List Int) (y7 y8 y9 : Option V), σ = [some (.ref sc), some (.ref a), some (.ref nt), some (.ref x), some (.int p), some (.int (0 + (k : Int))), some lv, y7, y8, y9] ∧ Tp K H8 lv (intsD l) ∧ risB l = true ∧ (∀ x ∈ l, 0 ≤ x ∧ x < (i : Int)) ∧ l.length ≤ i)
        ⟨lst, .ref t, [], _, _, _, rfl, tl0, rfl, fun x h => absurd h (by simp), Nat.zero_le _⟩ (fun _ _ _ _ _ => trivial) (fun i xv σ HH H8 hi hP y => ?_) fun σ H8 hP => ?_
      · obtain ⟨ls8, lv, l, y7, y8, y9, rfl, tl, hri, hmem, hll⟩ := hP
        obtain ⟨rfl, rfl⟩ := y
        have memW : ∀ x ∈ l, 0 ≤ x ∧ x < ((i + 1 : Nat) : Int) := fun x hx => by
          have := hmem x hx
          omega
        have lenW : l.length ≤ i + 1 := by omega
        have len1 : l.length + [0 + (i : Int)].length ≤ 1000 := by show l.length + 1 ≤ 1000; omega
        have len2 : (l ++ [0 + (i : Int)]).length ≤ 1000 := by rw [List.length_append]; exact len1
        have risN : risB (l ++ [0 + (i : Int)]) = true := risB_snoc hri fun x hx => by
          have := hmem x hx
          omega
        have memN : ∀ x ∈ l ++ [0 + (i : Int)], 0 ≤ x ∧ x < ((i + 1 : Nat) : Int) := fun x hx => by
          rcases List.mem_append.mp hx with z | z
          · exact memW x z
          · rw [List.mem_singleton.mp z]; omega
        have lenN : (l ++ [0 + (i : Int)]).length ≤ i + 1 := by rw [List.length_append]; show l.length + 1 ≤ i + 1; omega
        refine ⟨.int (0 + (k : Int)), rfl, _, _, rfl, rfl, _, rfl, ite2 (fun _ => ?_) (fun _ => iteF ?_)⟩
        · obtain ⟨nsr, er⟩ := ls8.po
          refine ⟨.ref a, rfl, a, 2, nsr, rfl, by decide, er, fun dr nr Hr _ _ gr er2 => ?_⟩
          have lsr := ls8.draw gr er2
          have tlr := ls8.tp gr tl
          refine ⟨rfl, _, rfl, ite2 (fun _ => iteT ?_) (fun _ => ?_)⟩
          · obtain ⟨nsq, eq1⟩ := lsr.po
            refine ⟨.ref a, rfl, a, 4, nsq, rfl, by decide, eq1, fun dq nq Hq _ _ gq eq2 => ?_⟩
            have lsq := lsr.draw gq eq2
            have tq := lsr.tp gq tlr
            refine ⟨_, _, rfl, rfl, _, rfl, ite2 (fun _ => ?_) (fun _ => ⟨lsq, lv, l, _, _, _, rfl, tq, hri, memW, lenW⟩)⟩
            refine ⟨lv, rfl, .int (0 + (i : Int)), rfl, by show 1 ≤ sizeLine; decide, fun t9 ht9 => ?_⟩
            have gt9 := Gr.new (x := none) (o := .tup [.int (0 + (i : Int))]) ht9
            exact ⟨l, [0 + (i : Int)], tq.gr0 gt9, .tup (.inl (.inl upd_same)) (.cons (.int _) .nil), by simp, len1, fun v9 Hv9 gv9 tv9 => ⟨lsq.gr0 (gt9.trans gv9), v9, l ++ [0 + (i : Int)], _, _, _, rfl, tv9, risN, memN, lenN⟩⟩
          · refine ⟨.int (0 + (k : Int)), rfl, _, _, rfl, rfl, _, rfl, ite2 (fun _ => ?_) (fun _ => iteF ⟨lsr, lv, l, _, _, _, rfl, tlr, hri, memW, lenW⟩)⟩
            refine ⟨.ref nt, rfl, lv, rfl, .int (0 + (i : Int)), rfl, by show 1 ≤ sizeLine; decide, fun t8 ht8 => ?_⟩
            have gt8 := Gr.new (x := none) (o := .tup [.int (0 + (i : Int))]) ht8
            refine ⟨l, [0 + (i : Int)], tlr.gr0 gt8, .tup (.inl (.inl upd_same)) (.cons (.int _) .nil), by simp, len1, fun v8 Hv8 gv8 tv8 => ?_⟩
            have lsv := lsr.gr0 (gt8.trans gv8)
            have tlv := tlr.gr0 (gt8.trans gv8)
            refine ⟨.ref nt, v8, n, arcs, l ++ [0 + (i : Int)], rfl, lsv.nd, lsv.net.ok.len, tv8, len2, fun _ Hw gw => ?_, fun st _ a' Hw gw _ => ?_⟩
            · have lsw := lsv.gr0 gw
              have tlw := tlv.gr0 gw
              refine ⟨rfl, _, rfl, ite2 (fun _ => ?_) (fun _ => ⟨lsw, lv, l, _, _, _, rfl, tlw, hri, memW, lenW⟩)⟩
              obtain ⟨nsq, eq1⟩ := lsw.po
              refine ⟨.ref a, rfl, a, 4, nsq, rfl, by decide, eq1, fun dq nq Hq _ _ gq eq2 => ?_⟩
              have lsq := lsw.draw gq eq2
              have tq := lsw.tp gq tlw
              refine ⟨_, _, rfl, rfl, _, rfl, ite2 (fun _ => ?_) (fun _ => ⟨lsq, lv, l, _, _, _, rfl, tq, hri, memW, lenW⟩)⟩
              refine ⟨lv, rfl, .int (0 + (i : Int)), rfl, by show 1 ≤ sizeLine; decide, fun t9 ht9 => ?_⟩
              have gt9 := Gr.new (x := none) (o := .tup [.int (0 + (i : Int))]) ht9
              exact ⟨l, [0 + (i : Int)], tq.gr0 gt9, .tup (.inl (.inl upd_same)) (.cons (.int _) .nil), by simp, len1, fun v9 Hv9 gv9 tv9 => ⟨lsq.gr0 (gt9.trans gv9), v9, l ++ [0 + (i : Int)], _, _, _, rfl, tv9, risN, memN, lenN⟩⟩
            · have lsw := lsv.gr0 gw
              have tlw := tlv.gr0 gw
              refine ⟨rfl, _, rfl, ite2 (fun _ => ?_) (fun _ => ⟨lsw, lv, l, _, _, _, rfl, tlw, hri, memW, lenW⟩)⟩
              obtain ⟨nsq, eq1⟩ := lsw.po
              refine ⟨.ref a, rfl, a, 4, nsq, rfl, by decide, eq1, fun dq nq Hq _ _ gq eq2 => ?_⟩
              have lsq := lsw.draw gq eq2
              have tq := lsw.tp gq tlw
              refine ⟨_, _, rfl, rfl, _, rfl, ite2 (fun _ => ?_) (fun _ => ⟨lsq, lv, l, _, _, _, rfl, tq, hri, memW, lenW⟩)⟩
              refine ⟨lv, rfl, .int (0 + (i : Int)), rfl, by show 1 ≤ sizeLine; decide, fun t9 ht9 => ?_⟩
              have gt9 := Gr.new (x := none) (o := .tup [.int (0 + (i : Int))]) ht9
              exact ⟨l, [0 + (i : Int)], tq.gr0 gt9, .tup (.inl (.inl upd_same)) (.cons (.int _) .nil), by simp, len1, fun v9 Hv9 gv9 tv9 => ⟨lsq.gr0 (gt9.trans gv9), v9, l ++ [0 + (i : Int)], _, _, _, rfl, tv9, risN, memN, lenN⟩⟩
        · refine ⟨.int (0 + (k : Int)), rfl, _, _, rfl, rfl, _, rfl, ite2 (fun _ => ?_) (fun _ => iteF ⟨ls8, lv, l, _, _, _, rfl, tl, hri, memW, lenW⟩)⟩
          refine ⟨.ref nt, rfl, lv, rfl, .int (0 + (i : Int)), rfl, by show 1 ≤ sizeLine; decide, fun t8 ht8 => ?_⟩
          have gt8 := Gr.new (x := none) (o := .tup [.int (0 + (i : Int))]) ht8
          refine ⟨l, [0 + (i : Int)], tl.gr0 gt8, .tup (.inl (.inl upd_same)) (.cons (.int _) .nil), by simp, len1, fun v8 Hv8 gv8 tv8 => ?_⟩
          have lsv := ls8.gr0 (gt8.trans gv8)
          have tlv := tl.gr0 (gt8.trans gv8)
          refine ⟨.ref nt, v8, n, arcs, l ++ [0 + (i : Int)], rfl, lsv.nd, lsv.net.ok.len, tv8, len2, fun _ Hw gw => ?_, fun st _ a' Hw gw _ => ?_⟩
          · have lsw := lsv.gr0 gw
            have tlw := tlv.gr0 gw
            refine ⟨rfl, _, rfl, ite2 (fun _ => ?_) (fun _ => ⟨lsw, lv, l, _, _, _, rfl, tlw, hri, memW, lenW⟩)⟩
            obtain ⟨nsq, eq1⟩ := lsw.po
            refine ⟨.ref a, rfl, a, 4, nsq, rfl, by decide, eq1, fun dq nq Hq _ _ gq eq2 => ?_⟩
            have lsq := lsw.draw gq eq2
            have tq := lsw.tp gq tlw
            refine ⟨_, _, rfl, rfl, _, rfl, ite2 (fun _ => ?_) (fun _ => ⟨lsq, lv, l, _, _, _, rfl, tq, hri, memW, lenW⟩)⟩
            refine ⟨lv, rfl, .int (0 + (i : Int)), rfl, by show 1 ≤ sizeLine; decide, fun t9 ht9 => ?_⟩
            have gt9 := Gr.new (x := none) (o := .tup [.int (0 + (i : Int))]) ht9
            exact ⟨l, [0 + (i : Int)], tq.gr0 gt9, .tup (.inl (.inl upd_same)) (.cons (.int _) .nil), by simp, len1, fun v9 Hv9 gv9 tv9 => ⟨lsq.gr0 (gt9.trans gv9), v9, l ++ [0 + (i : Int)], _, _, _, rfl, tv9, risN, memN, lenN⟩⟩
          · have lsw := lsv.gr0 gw
            have tlw := tlv.gr0 gw
            refine ⟨rfl, _, rfl, ite2 (fun _ => ?_) (fun _ => ⟨lsw, lv, l, _, _, _, rfl, tlw, hri, memW, lenW⟩)⟩
            obtain ⟨nsq, eq1⟩ := lsw.po
            refine ⟨.ref a, rfl, a, 4, nsq, rfl, by decide, eq1, fun dq nq Hq _ _ gq eq2 => ?_⟩
            have lsq := lsw.draw gq eq2
            have tq := lsw.tp gq tlw
            refine ⟨_, _, rfl, rfl, _, rfl, ite2 (fun _ => ?_) (fun _ => ⟨lsq, lv, l, _, _, _, rfl, tq, hri, memW, lenW⟩)⟩
            refine ⟨lv, rfl, .int (0 + (i : Int)), rfl, by show 1 ≤ sizeLine; decide, fun t9 ht9 => ?_⟩
            have gt9 := Gr.new (x := none) (o := .tup [.int (0 + (i : Int))]) ht9
            exact ⟨l, [0 + (i : Int)], tq.gr0 gt9, .tup (.inl (.inl upd_same)) (.cons (.int _) .nil), by simp, len1, fun v9 Hv9 gv9 tv9 => ⟨lsq.gr0 (gt9.trans gv9), v9, l ++ [0 + (i : Int)], _, _, _, rfl, tv9, risN, memN, lenN⟩⟩
      · obtain ⟨ls8, lv, l, y7, y8, y9, rfl, tl, hri, hmem, hll⟩ := hP
        exact ⟨.ref nt, rfl, .ref x, rfl, .int p, rfl, lv, rfl, .ref nt, lv, x, p, n, arcs, l, rfl, ls8.nd, ls8.net, hF, tl, hri, hmem, by omega, ls8.t1, ls8.t2, ls8.t3, fun H9 g9 => ⟨true, rfl, iteF ⟨ls8.gr0 g9, _, _, _, _, _, rfl⟩⟩⟩
    · obtain ⟨ls, y5, y6, y7, y8, y9, rfl⟩ := hP
      clear e5 epl5 g5 ls5 e3 epl ls1 hpl ls0
      refine ⟨by show 1 ≤ sizeLine; decide, fun c0 hc0 => ?_⟩
      have nc0 := ls.nea hc0
      have gc0 : Gr none H6 (upd H6 c0 (.tup [.int 2])) := Gr.new hc0
      have ec0 : (upd H6 c0 (.tup [.int 2])) c0 = some (.tup [.int 2]) := upd_same
      have lsc0 := ls.gr0 gc0
      generalize upd H6 c0 (.tup [.int 2]) = K0 at *
      refine ⟨by show 1 ≤ sizeLine; decide, fun c1 hc1 => ?_⟩
      have nc1 := lsc0.nea hc1
      have gc1 : Gr none K0 (upd K0 c1 (.lst [.int 3])) := Gr.new hc1
      have ec1 : (upd K0 c1 (.lst [.int 3])) c1 = some (.lst [.int 3]) := upd_same
      have lsc1 := lsc0.gr0 gc1
      replace ec0 := gc1.keep c0 _ (by simp) ec0 (fun _ z => nomatch z)
      generalize upd K0 c1 (.lst [.int 3]) = K1 at *
      refine ⟨by show 10 ≤ sizeLine; decide, fun ol hol => ?_⟩
      have nol := lsc1.nea hol
      have gol : Gr none K1 (upd K1 ol (.lst [.non, .bl true, .int 0, .int 1, .int 4, .int 9, .int 17, .str "2", .ref c0, .ref c1])) := Gr.new hol
      have eol : (upd K1 ol (.lst [.non, .bl true, .int 0, .int 1, .int 4, .int 9, .int 17, .str "2", .ref c0, .ref c1])) ol = some (.lst [.non, .bl true, .int 0, .int 1, .int 4, .int 9, .int 17, .str "2", .ref c0, .ref c1]) := upd_same
      have lsol := lsc1.gr0 gol
      replace ec0 := gol.keep c0 _ (by simp) ec0 (fun _ z => nomatch z)
      replace ec1 := gol.keep c1 _ (by simp) ec1 (fun _ z => nomatch z)
      generalize upd K1 ol (.lst [.non, .bl true, .int 0, .int 1, .int 4, .int 9, .int 17, .str "2", .ref c0, .ref c1]) = K2 at *
      have dol : DpAll K (del K2 a) [.non, .bl true, .int 0, .int 1, .int 4, .int 9, .int 17, .str "2", .ref c0, .ref c1] oddL := (.cons .non (.cons (.bl true) (.cons (.int 0) (.cons (.int 1) (.cons (.int 4) (.cons (.int 9) (.cons (.int 17) (.cons (.str _) (.cons (.tup (.inl (.inl (del_at ec0 nc0))) (.cons (.int 2) .nil)) (.cons (.lst (SqL.of (del_at ec1 nc1)) (.cons (.int 3) .nil)) .nil))))))))))
      obtain ⟨nd3, ed3⟩ := lsol.po
      refine ⟨.ref a, rfl, a, 10, nd3, rfl, by decide, ed3, fun dd3 nn3 K3 dl3 dh3 gd3 ee3 => ?_⟩
      have lsd3 := lsol.draw gd3 ee3
      clear ec0
      clear ec1
      replace eol := gd3.keep ol _ (fun z => nol (Option.some.inj z)) eol (fun _ z => nomatch z)
      obtain ⟨jd3, rfl⟩ := Int.eq_ofNat_of_zero_le dl3
      replace dol := DpAll.gr (del_gr gd3) dol
      obtain ⟨vo, hvo⟩ : ∃ vo, ([.non, .bl true, .int 0, .int 1, .int 4, .int 9, .int 17, .str "2", .ref c0, .ref c1] : List V)[jd3]? = some vo := ⟨_, List.getElem?_eq_getElem (show jd3 < 10 by omega)⟩
      obtain ⟨ddo, hdo, dpo⟩ := DpAll.get dol hvo
      obtain ⟨fo, ko⟩ := odd_ok _ (List.mem_of_getElem? hdo)
      refine ⟨ol, _, jd3, vo, rfl, rfl, SqL.of eol, atI_nat (j := jd3) hvo, ?_⟩
      clear eol dol
      refine ⟨by show 1 ≤ sizeLine; decide, fun c4 hc4 => ?_⟩
      have nc4 := lsd3.nea hc4
      have gc4 : Gr none K3 (upd K3 c4 (.lst [.int 0])) := Gr.new hc4
      have ec4 : (upd K3 c4 (.lst [.int 0])) c4 = some (.lst [.int 0]) := upd_same
      have lsc4 := lsd3.gr0 gc4
      replace dpo := Dp.gr (del_gr gc4.any) dpo
      generalize upd K3 c4 (.lst [.int 0]) = K4 at *
      refine ⟨by show 2 ≤ sizeLine; decide, fun c5 hc5 => ?_⟩
      have nc5 := lsc4.nea hc5
      have gc5 : Gr none K4 (upd K4 c5 (.tup [.int 0, .int 0])) := Gr.new hc5
      have ec5 : (upd K4 c5 (.tup [.int 0, .int 0])) c5 = some (.tup [.int 0, .int 0]) := upd_same
      have lsc5 := lsc4.gr0 gc5
      replace ec4 := gc5.keep c4 _ (by simp) ec4 (fun _ z => nomatch z)
      replace dpo := Dp.gr (del_gr gc5.any) dpo
      generalize upd K4 c5 (.tup [.int 0, .int 0]) = K5 at *
      obtain ⟨nx6, hns6, hn6⟩ := lsc5.n0
      refine ⟨.ref nt, rfl, nt, nx6, 0, .int n, rfl, rfl, hns6, hn6, by show 1 ≤ sizeLine; decide, fun c7 hc7 => ?_⟩
      have nc7 := lsc5.nea hc7
      have gc7 : Gr none K5 (upd K5 c7 (.tup [.int n])) := Gr.new hc7
      have ec7 : (upd K5 c7 (.tup [.int n])) c7 = some (.tup [.int n]) := upd_same
      have lsc7 := lsc5.gr0 gc7
      replace ec4 := gc7.keep c4 _ (by simp) ec4 (fun _ z => nomatch z)
      replace ec5 := gc7.keep c5 _ (by simp) ec5 (fun _ z => nomatch z)
      replace dpo := Dp.gr (del_gr gc7.any) dpo
      generalize upd K5 c7 (.tup [.int n]) = K7 at *
      refine ⟨1, rfl, by show 1 ≤ sizeLine; decide, fun c8 hc8 => ?_⟩
      have nc8 := lsc7.nea hc8
      have gc8 : Gr none K7 (upd K7 c8 (.tup [.int (-1)])) := Gr.new hc8
      have ec8 : (upd K7 c8 (.tup [.int (-1)])) c8 = some (.tup [.int (-1)]) := upd_same
      have lsc8 := lsc7.gr0 gc8
      replace ec4 := gc8.keep c4 _ (by simp) ec4 (fun _ z => nomatch z)
      replace ec5 := gc8.keep c5 _ (by simp) ec5 (fun _ z => nomatch z)
      replace ec7 := gc8.keep c7 _ (by simp) ec7 (fun _ z => nomatch z)
      replace dpo := Dp.gr (del_gr gc8.any) dpo
      generalize upd K7 c8 (.tup [.int (-1)]) = K8 at *
      refine ⟨by show 1 ≤ sizeLine; decide, fun c9 hc9 => ?_⟩
      have nc9 := lsc8.nea hc9
      have gc9 : Gr none K8 (upd K8 c9 (.tup [.bl true])) := Gr.new hc9
      have ec9 : (upd K8 c9 (.tup [.bl true])) c9 = some (.tup [.bl true]) := upd_same
      have lsc9 := lsc8.gr0 gc9
      replace ec4 := gc9.keep c4 _ (by simp) ec4 (fun _ z => nomatch z)
      replace ec5 := gc9.keep c5 _ (by simp) ec5 (fun _ z => nomatch z)
      replace ec7 := gc9.keep c7 _ (by simp) ec7 (fun _ z => nomatch z)
      replace ec8 := gc9.keep c8 _ (by simp) ec8 (fun _ z => nomatch z)
      replace dpo := Dp.gr (del_gr gc9.any) dpo
      generalize upd K8 c9 (.tup [.bl true]) = K9 at *
      refine ⟨by show 1 ≤ sizeLine; decide, fun c10 hc10 => ?_⟩
      have nc10 := lsc9.nea hc10
      have gc10 : Gr none K9 (upd K9 c10 (.tup [.non])) := Gr.new hc10
      have ec10 : (upd K9 c10 (.tup [.non])) c10 = some (.tup [.non]) := upd_same
      have lsc10 := lsc9.gr0 gc10
      replace ec4 := gc10.keep c4 _ (by simp) ec4 (fun _ z => nomatch z)
      replace ec5 := gc10.keep c5 _ (by simp) ec5 (fun _ z => nomatch z)
      replace ec7 := gc10.keep c7 _ (by simp) ec7 (fun _ z => nomatch z)
      replace ec8 := gc10.keep c8 _ (by simp) ec8 (fun _ z => nomatch z)
      replace ec9 := gc10.keep c9 _ (by simp) ec9 (fun _ z => nomatch z)
      replace dpo := Dp.gr (del_gr gc10.any) dpo
      generalize upd K9 c10 (.tup [.non]) = K10 at *
      refine ⟨by show 1 ≤ sizeLine; decide, fun c11 hc11 => ?_⟩
      have nc11 := lsc10.nea hc11
      have gc11 : Gr none K10 (upd K10 c11 (.tup [.int 0])) := Gr.new hc11
      have ec11 : (upd K10 c11 (.tup [.int 0])) c11 = some (.tup [.int 0]) := upd_same
      have lsc11 := lsc10.gr0 gc11
      replace ec4 := gc11.keep c4 _ (by simp) ec4 (fun _ z => nomatch z)
      replace ec5 := gc11.keep c5 _ (by simp) ec5 (fun _ z => nomatch z)
      replace ec7 := gc11.keep c7 _ (by simp) ec7 (fun _ z => nomatch z)
      replace ec8 := gc11.keep c8 _ (by simp) ec8 (fun _ z => nomatch z)
      replace ec9 := gc11.keep c9 _ (by simp) ec9 (fun _ z => nomatch z)
      replace ec10 := gc11.keep c10 _ (by simp) ec10 (fun _ z => nomatch z)
      replace dpo := Dp.gr (del_gr gc11.any) dpo
      generalize upd K10 c11 (.tup [.int 0]) = K11 at *
      refine ⟨by show 1 ≤ sizeLine; decide, fun c12 hc12 => ?_⟩
      have nc12 := lsc11.nea hc12
      have gc12 : Gr none K11 (upd K11 c12 (.tup [.ref c11])) := Gr.new hc12
      have ec12 : (upd K11 c12 (.tup [.ref c11])) c12 = some (.tup [.ref c11]) := upd_same
      have lsc12 := lsc11.gr0 gc12
      replace ec4 := gc12.keep c4 _ (by simp) ec4 (fun _ z => nomatch z)
      replace ec5 := gc12.keep c5 _ (by simp) ec5 (fun _ z => nomatch z)
      replace ec7 := gc12.keep c7 _ (by simp) ec7 (fun _ z => nomatch z)
      replace ec8 := gc12.keep c8 _ (by simp) ec8 (fun _ z => nomatch z)
      replace ec9 := gc12.keep c9 _ (by simp) ec9 (fun _ z => nomatch z)
      replace ec10 := gc12.keep c10 _ (by simp) ec10 (fun _ z => nomatch z)
      replace ec11 := gc12.keep c11 _ (by simp) ec11 (fun _ z => nomatch z)
      replace dpo := Dp.gr (del_gr gc12.any) dpo
      generalize upd K11 c12 (.tup [.ref c11]) = K12 at *
      obtain ⟨nx13, hns13, hn13⟩ := lsc12.n0
      refine ⟨.ref nt, rfl, nt, nx13, 0, .int n, rfl, rfl, hns13, hn13, n, 1, rfl, rfl, by show 2 ≤ sizeLine; decide, fun c14 hc14 => ?_⟩
      have nc14 := lsc12.nea hc14
      have gc14 : Gr none K12 (upd K12 c14 (.tup [.int ((n : Int) - 1), .int 0])) := Gr.new hc14
      have ec14 : (upd K12 c14 (.tup [.int ((n : Int) - 1), .int 0])) c14 = some (.tup [.int ((n : Int) - 1), .int 0]) := upd_same
      have lsc14 := lsc12.gr0 gc14
      replace ec4 := gc14.keep c4 _ (by simp) ec4 (fun _ z => nomatch z)
      replace ec5 := gc14.keep c5 _ (by simp) ec5 (fun _ z => nomatch z)
      replace ec7 := gc14.keep c7 _ (by simp) ec7 (fun _ z => nomatch z)
      replace ec8 := gc14.keep c8 _ (by simp) ec8 (fun _ z => nomatch z)
      replace ec9 := gc14.keep c9 _ (by simp) ec9 (fun _ z => nomatch z)
      replace ec10 := gc14.keep c10 _ (by simp) ec10 (fun _ z => nomatch z)
      replace ec11 := gc14.keep c11 _ (by simp) ec11 (fun _ z => nomatch z)
      replace ec12 := gc14.keep c12 _ (by simp) ec12 (fun _ z => nomatch z)
      replace dpo := Dp.gr (del_gr gc14.any) dpo
      generalize upd K12 c14 (.tup [.int ((n : Int) - 1), .int 0]) = K14 at *
      refine ⟨by show 2 ≤ sizeLine; decide, fun c15 hc15 => ?_⟩
      have nc15 := lsc14.nea hc15
      have gc15 : Gr none K14 (upd K14 c15 (.tup [.int 1, .int 0])) := Gr.new hc15
      have ec15 : (upd K14 c15 (.tup [.int 1, .int 0])) c15 = some (.tup [.int 1, .int 0]) := upd_same
      have lsc15 := lsc14.gr0 gc15
      replace ec4 := gc15.keep c4 _ (by simp) ec4 (fun _ z => nomatch z)
      replace ec5 := gc15.keep c5 _ (by simp) ec5 (fun _ z => nomatch z)
      replace ec7 := gc15.keep c7 _ (by simp) ec7 (fun _ z => nomatch z)
      replace ec8 := gc15.keep c8 _ (by simp) ec8 (fun _ z => nomatch z)
      replace ec9 := gc15.keep c9 _ (by simp) ec9 (fun _ z => nomatch z)
      replace ec10 := gc15.keep c10 _ (by simp) ec10 (fun _ z => nomatch z)
      replace ec11 := gc15.keep c11 _ (by simp) ec11 (fun _ z => nomatch z)
      replace ec12 := gc15.keep c12 _ (by simp) ec12 (fun _ z => nomatch z)
      replace ec14 := gc15.keep c14 _ (by simp) ec14 (fun _ z => nomatch z)
      replace dpo := Dp.gr (del_gr gc15.any) dpo
      generalize upd K14 c15 (.tup [.int 1, .int 0]) = K15 at *
      refine ⟨by show 12 ≤ sizeLine; decide, fun bl hbl => ?_⟩
      have nbl := lsc15.nea hbl
      have gbl : Gr none K15 (upd K15 bl (.lst [.non, .ref c4, .ref c5, .ref c7, .ref c8, .ref c9, .ref c10, .str "0", .int 3, .ref c12, .ref c14, .ref c15])) := Gr.new hbl
      have ebl : (upd K15 bl (.lst [.non, .ref c4, .ref c5, .ref c7, .ref c8, .ref c9, .ref c10, .str "0", .int 3, .ref c12, .ref c14, .ref c15])) bl = some (.lst [.non, .ref c4, .ref c5, .ref c7, .ref c8, .ref c9, .ref c10, .str "0", .int 3, .ref c12, .ref c14, .ref c15]) := upd_same
      have lsbl := lsc15.gr0 gbl
      replace ec4 := gbl.keep c4 _ (by simp) ec4 (fun _ z => nomatch z)
      replace ec5 := gbl.keep c5 _ (by simp) ec5 (fun _ z => nomatch z)
      replace ec7 := gbl.keep c7 _ (by simp) ec7 (fun _ z => nomatch z)
      replace ec8 := gbl.keep c8 _ (by simp) ec8 (fun _ z => nomatch z)
      replace ec9 := gbl.keep c9 _ (by simp) ec9 (fun _ z => nomatch z)
      replace ec10 := gbl.keep c10 _ (by simp) ec10 (fun _ z => nomatch z)
      replace ec11 := gbl.keep c11 _ (by simp) ec11 (fun _ z => nomatch z)
      replace ec12 := gbl.keep c12 _ (by simp) ec12 (fun _ z => nomatch z)
      replace ec14 := gbl.keep c14 _ (by simp) ec14 (fun _ z => nomatch z)
      replace ec15 := gbl.keep c15 _ (by simp) ec15 (fun _ z => nomatch z)
      replace dpo := Dp.gr (del_gr gbl.any) dpo
      generalize upd K15 bl (.lst [.non, .ref c4, .ref c5, .ref c7, .ref c8, .ref c9, .ref c10, .str "0", .int 3, .ref c12, .ref c14, .ref c15]) = K16 at *
      have dbl : DpAll K (del K16 a) [.non, .ref c4, .ref c5, .ref c7, .ref c8, .ref c9, .ref c10, .str "0", .int 3, .ref c12, .ref c14, .ref c15] (badL n) := (.cons .non (.cons (.lst (SqL.of (del_at ec4 nc4)) (.cons (.int 0) .nil)) (.cons (.tup (.inl (.inl (del_at ec5 nc5))) (.cons (.int 0) (.cons (.int 0) .nil))) (.cons (.tup (.inl (.inl (del_at ec7 nc7))) (.cons (.int _) .nil)) (.cons (.tup (.inl (.inl (del_at ec8 nc8))) (.cons (.int _) .nil)) (.cons (.tup (.inl (.inl (del_at ec9 nc9))) (.cons (.bl true) .nil)) (.cons (.tup (.inl (.inl (del_at ec10 nc10))) (.cons .non .nil)) (.cons (.str _) (.cons (.int 3) (.cons (.tup (.inl (.inl (del_at ec12 nc12))) (.cons (.tup (.inl (.inl (del_at ec11 nc11))) (.cons (.int 0) .nil)) .nil)) (.cons (.tup (.inl (.inl (del_at ec14 nc14))) (.cons (.int _) (.cons (.int 0) .nil))) (.cons (.tup (.inl (.inl (del_at ec15 nc15))) (.cons (.int 1) (.cons (.int 0) .nil))) .nil))))))))))))
      refine ⟨.ref bl, rfl, ?_⟩
      obtain ⟨nd17, ed17⟩ := lsbl.po
      refine ⟨.ref a, rfl, a, 12, nd17, rfl, by decide, ed17, fun dd17 nn17 K17 dl17 dh17 gd17 ee17 => ?_⟩
      have lsd17 := lsbl.draw gd17 ee17
      clear ec4
      clear ec5
      clear ec7
      clear ec8
      clear ec9
      clear ec10
      clear ec11
      clear ec12
      clear ec14
      clear ec15
      replace ebl := gd17.keep bl _ (fun z => nbl (Option.some.inj z)) ebl (fun _ z => nomatch z)
      replace dpo := Dp.gr (del_gr gd17) dpo
      obtain ⟨jd17, rfl⟩ := Int.eq_ofNat_of_zero_le dl17
      replace dbl := DpAll.gr (del_gr gd17) dbl
      obtain ⟨vb, hvb⟩ : ∃ vb, ([.non, .ref c4, .ref c5, .ref c7, .ref c8, .ref c9, .ref c10, .str "0", .int 3, .ref c12, .ref c14, .ref c15] : List V)[jd17]? = some vb := ⟨_, List.getElem?_eq_getElem (show jd17 < 12 by omega)⟩
      obtain ⟨ddb, hdb, dpb⟩ := DpAll.get dbl hvb
      obtain ⟨fb, kb, lb⟩ := bad_ok h1 _ (List.mem_of_getElem? hdb)
      refine ⟨bl, _, jd17, vb, rfl, rfl, SqL.of ebl, atI_nat (j := jd17) hvb, ?_⟩
      clear ebl dbl
      refine ⟨.ref x, rfl, vo, rfl, ?_⟩
      refine ⟨by show 0 ≤ sizeLine; decide, fun c18 hc18 => ?_⟩
      have nc18 := lsd17.nea hc18
      have gc18 : Gr none K17 (upd K17 c18 (.tup [])) := Gr.new hc18
      have ec18 : (upd K17 c18 (.tup [])) c18 = some (.tup []) := upd_same
      have lsc18 := lsd17.gr0 gc18
      replace dpo := Dp.gr (del_gr gc18.any) dpo
      replace dpb := Dp.gr (del_gr gc18.any) dpb
      generalize upd K17 c18 (.tup []) = K18 at *
      refine ⟨vb, rfl, by show 2 ≤ sizeLine; decide, fun wl hwl => ?_⟩
      have nwl := lsc18.nea hwl
      have gwl : Gr none K18 (upd K18 wl (.lst [.ref c18, vb])) := Gr.new hwl
      have ewl : (upd K18 wl (.lst [.ref c18, vb])) wl = some (.lst [.ref c18, vb]) := upd_same
      have lswl := lsc18.gr0 gwl
      replace ec18 := gwl.keep c18 _ (by simp) ec18 (fun _ z => nomatch z)
      replace dpo := Dp.gr (del_gr gwl.any) dpo
      replace dpb := Dp.gr (del_gr gwl.any) dpb
      generalize upd K18 wl (.lst [.ref c18, vb]) = K19 at *
      obtain ⟨nd20, ed20⟩ := lswl.po
      refine ⟨.ref a, rfl, a, 2, nd20, rfl, by decide, ed20, fun dd20 nn20 K20 dl20 dh20 gd20 ee20 => ?_⟩
      have lsd20 := lswl.draw gd20 ee20
      replace ec18 := gd20.keep c18 _ (fun z => nc18 (Option.some.inj z)) ec18 (fun _ z => nomatch z)
      replace ewl := gd20.keep wl _ (fun z => nwl (Option.some.inj z)) ewl (fun _ z => nomatch z)
      replace dpo := Dp.gr (del_gr gd20) dpo
      replace dpb := Dp.gr (del_gr gd20) dpb
      obtain ⟨jd20, rfl⟩ := Int.eq_ofNat_of_zero_le dl20
      obtain ⟨vl, dlv, hvl, hdl, hlb⟩ : ∃ vl dlv, ([.ref c18, vb] : List V)[jd20]? = some vl ∧ Dp K K20 vl dlv ∧ ∀ ds, dlv = .tuple ds → ds.length ≤ 1000 := by
        have : jd20 < 2 := by omega
        match jd20, this with
        | 0, _ => exact ⟨.ref c18, .tuple [], rfl, .tup (.inl (.inl ec18)) .nil, fun ds e => by cases e; exact Nat.zero_le _⟩
        | 1, _ => exact ⟨vb, ddb, rfl, Dp.gr del_un dpb, lb⟩
      refine ⟨wl, _, jd20, vl, rfl, rfl, SqL.of ewl, atI_nat (j := jd20) hvl, vo, rfl, ?_⟩
      refine ⟨x, vo, vl, vo, ddo, dlv, ddo, n, 0, arcs, rfl, lsd20.net, Dp.gr del_un dpo, hdl, hlb, Dp.gr del_un dpo, ko, .num fo, fun Hz gz => ⟨true, rfl, iteF ?_⟩⟩
      have dpz := Dp.gr gz (Dp.gr del_un dpb)
      exact ⟨.ref x, rfl, .int p, rfl, vb, rfl, vb, rfl, x, .int p, vb, vb, .int p, ddb, ddb, n, 4, arcs, rfl, (lsd20.gr0 gz).net, .int _, dpz, lb, dpz, kb, .lot hF fb, fun Hy gy => q Hy⟩
end
end Lk

namespace Lk
open PySem PySem.Spec PyProof.Rows L2 GxR RZ L2H
/-- a def of the top, by its name -/
def GD (K : PySem.W.Frag) (mg : Str → Option Value) (nm x qual : Str) (st : Stmt) : Prop := ∃ f fd, Fun K x qual st f fd ∧ mg nm = some (.ref f)
def GC (K : PySem.W.Frag) (mg : Str → Option Value) (nm x qual : Str) (st : Stmt) (c : Addr) : Prop := ∃ f fd, FunC K x qual st f fd c ∧ mg nm = some (.ref f)
theorem gd_mk {K : PySem.W.Frag} {h : Heap} {mg : Str → Option Value} {nm x qual : Str} {st : Stmt} {f : Addr} {oc : Value} {od an : Option Addr} {osl : Array (Option Value)} {kV doc pm cdv ct : Value} (X : K.In h) (G : h.Ns mainGlobals mg)
    (a : PySem.W.nsIn K mainGlobals nm = some (some (.ref f))) (l : K.lookup f = some ⟨oc, od, .func (PySem.W.fnOf x qual (defArgs st) (defBody st) (defScope st) .none kV doc pm an cdv ct), osl⟩) (c : PySem.W.codeIn K cdv qual = true) (k : PySem.W.keepIn K (.ref f) = true) : GD K mg nm x qual st :=
  ⟨f, _, fun_mk l c k, PySem.W.mg_of X G a⟩
theorem gc_mk {K : PySem.W.Frag} {h : Heap} {mg : Str → Option Value} {nm x qual : Str} {st : Stmt} {f cc : Addr} {oc : Value} {od an : Option Addr} {osl : Array (Option Value)} {kV doc pm ct : Value} (X : K.In h) (G : h.Ns mainGlobals mg)
    (a : PySem.W.nsIn K mainGlobals nm = some (some (.ref f))) (l : K.lookup f = some ⟨oc, od, .func (PySem.W.fnOf x qual (defArgs st) (defBody st) (defScope st) .none kV doc pm an (.ref cc) ct), osl⟩) (c : PySem.W.codeIn K (.ref cc) qual = true) (k : PySem.W.keepIn K (.ref f) = true) : GC K mg nm x qual st cc :=
  ⟨f, _, ⟨⟨oc, od, kV, doc, pm, an, ct, osl, rfl, l, c⟩, k⟩, PySem.W.mg_of X G a⟩
/-- a method's def -/
theorem md_mk {K : PySem.W.Frag} {x qual : Str} {st : Stmt} {f : Addr} {oc : Value} {od an : Option Addr} {osl : Array (Option Value)} {kV doc pm cdv ct : Value} (l : K.lookup f = some ⟨oc, od, .func (PySem.W.fnOf x qual (defArgs st) (defBody st) (defScope st) .none kV doc pm an cdv ct), osl⟩)
    (c : PySem.W.codeIn K cdv qual = true) (k : PySem.W.keepIn K (.ref f) = true) : ∃ fd, Fun K x qual st f fd := ⟨_, fun_mk l c k⟩
structure DefsK (K : PySem.W.Frag) (mg : Str → Option Value) (c1 c2 c3 : Addr) : Prop where
  letter : GD K mg "is_letter" "is_letter" "is_letter" sLetter
  field : GD K mg "is_field" "is_field" "is_field" sField
  inv : GD K mg "inverse_of" "inverse_of" "inverse_of" sInv
  below : GD K mg "is_below" "is_below" "is_below" sBelow
  lot : GD K mg "is_lot" "is_lot" "is_lot" sLot
  one : GD K mg "one_row" "one_row" "one_row" sOne
  wrong : GD K mg "first_wrong_arc" "first_wrong_arc" "first_wrong_arc" sWrong
  strip : GD K mg "stripped" "stripped" "stripped" sStrip
  can : GD K mg "can_order" "can_order" "can_order" sCan
  head : GD K mg "head_of" "head_of" "head_of" sHead
  plus : GD K mg "plus_times" "plus_times" "plus_times" sPlus
  left : GD K mg "left_of" "left_of" "left_of" sLeft
  within : GD K mg "is_within" "is_within" "is_within" sWithin
  with_ : GD K mg "with_row" "with_row" "with_row" sWith
  space : GD K mg "space_of" "space_of" "space_of" sSpace
  lisT : GD K mg "is_listener_tellings" "is_listener" "is_listener" sLisT
  step : GD K mg "_is_step" "_is_step" "_is_step" sStep
  holds : GD K mg "ladder_holds" "ladder_holds" "ladder_holds" sHolds
  free : GD K mg "_first_free" "_first_free" "_first_free" sFree
  lad : GD K mg "lot_ladder" "lot_ladder" "lot_ladder" sLad
  pool : GD K mg "_law_pool" "_law_pool" "_law_pool" sPool
  draw : GD K mg "_law_draw" "_law_draw" "_law_draw" sDraw
  same : GD K mg "_law_same" "_law_same" "_law_same" sSame
  kinds : GD K mg "_law_kinds" "_law_kinds" "_law_kinds" sKinds
  alone : GD K mg "_law_alone" "_law_alone" "_law_alone" sAlone
  arcs : GD K mg "_law_arcs" "_law_arcs" "_law_arcs" sArcs
  taken : GD K mg "_law_taken" "_law_taken" "_law_taken" sTaken
  ref : GD K mg "_law_refused" "_law_refused" "_law_refused" sRef
  told : GD K mg "_law_told" "_law_told" "_law_told" sTold
  law : GD K mg "law" "law" "law" sLaw
  row : GC K mg "is_row" "is_row" "is_row" sRow c1
  mat : GC K mg "is_matrix" "is_matrix" "is_matrix" sMat c2
  lis : GC K mg "is_listener_audiences" "is_listener" "is_listener" sLis c3
structure ErrK (K : PySem.W.Frag) (C : Addr) (f : Str) (st : Stmt) (qual : Str) : Prop where
  oex : OexC K C
  no : PySem.W.findIn K (.ref C) f = some none
  ex : ∃ fI fd, PySem.W.findIn K (.ref C) "__init__" = some (some (.ref fI)) ∧ PySem.W.typeIn K (.ref fI) = some (.type "function") ∧ Fun K "__init__" qual st fI fd
structure ClsK (K : PySem.W.Frag) (mg : Str → Option Value) (CN CA : Addr) : Prop where
  net : NetT K mg CN
  gN : mg "Net" = some (.ref CN)
  mN : ∃ f fd, Mk K CN f ∧ Fun K "__init__" "Net.__init__" sNetInit f fd
  uN : ∃ f fd, Meth K CN "audience" f ∧ Fun K "audience" "Net.audience" sAudience f fd
  aud : AudT K CA
  gA : mg "Audience" = some (.ref CA)
  mA : ∃ f fd, Mk K CA f ∧ Fun K "__init__" "Audience.__init__" sAudInit f fd
  mp : ∃ t, mg "MOST_PLACES" = some (.int 12 t)
  mc : ∃ t, mg "MOST_COLUMNS" = some (.int 12 t)
section
variable {P : Program} {w : World} {K : PySem.W.Frag} {mg : Str → Option Value} {c : Nat → Addr} {cS c1 c2 c3 T1 T2 T3 CN CA : Addr}
theorem cal {base : Heap} {CX : CXT} {k : Nat} {nm x qual : Str} {st : Stmt} {ps : List Str} {sp : Sp} (g : GD K mg nm x qual st) (hb : ∀ {f fd}, Fun K x qual st f fd → Binds K fd ps []) (ok : ∀ {f fd}, Fun K x qual st f fd → FnOk P w K mg base CX k f fd ps sp) : Cal P w K mg base CX k nm ps sp := by
  obtain ⟨f, fd, F, e⟩ := g
  exact ⟨f, fd, ok F, e, F.kp, hb F⟩
theorem calC {base : Heap} {CX : CXT} {k : Nat} {nm x qual : Str} {st : Stmt} {ps : List Str} {sp : Sp} {cc : Addr} (g : GC K mg nm x qual st cc) (hb : ∀ {f fd}, Fun K x qual st f fd → Binds K fd ps []) (ok : ∀ {f fd}, FunC K x qual st f fd cc → FnOk P w K mg base CX k f fd ps sp) : Cal P w K mg base CX k nm ps sp := by
  obtain ⟨f, fd, F, e⟩ := g
  exact ⟨f, fd, ok F, e, F.kp, hb F.fn⟩
theorem tabB {base : Heap} {a b : Addr} (t : LamX.TabB base mg a b) : GxR.TabB base mg a b := ⟨t.code, t.bm, t.gP⟩
theorem law_ok {base : Heap} {fa : Addr} (B : Bi mg) (R : Pr K mg) (N : Nms mg c cS) (D : DefsK K mg c1 c2 c3) (Z : ClsK K mg CN CA) (E1 : ErrK K (c 0) "value" (sErr 3) "InvalidNumber.__init__") (E2 : ErrK K (c 4) "value" (sErr 7) "InvalidLot.__init__") (E3 : ErrK K (c 13) "what" (sErr 17) "Undefined.__init__")
    (Q1 : Er3 K c cS (c 0) 0) (Q2 : Er3 K c cS (c 4) 4) (Q3 : Er3 K c cS (c 13) 13) (hfa : mg "law" = some (.ref fa)) (b1 : GxR.TabB base mg c1 T1) (b2 : GxR.TabB base mg c2 T2) (b3 : GxR.TabB base mg c3 T3) :
    ∀ {fd : FuncData}, Fun K "law" "law" sLaw fa fd → FnOk P w K mg base CX0 12 fa fd ["_law_script"] (spLaw K T1 T2 T3) := by
  intro fd FL
  have Lletter : Cal P w K mg base (CX0) 1 "is_letter" ["value", "p"] (spBelow K) := cal D.letter (fun F => F.binds fun _ _ _ _ _ _ us hl => match us, hl with | [_, _], _ => rfl) (fun F => ok_letter F B)
  have Lfield : Cal P w K mg base (CX0) 1 "is_field" ["p"] (spField K) := cal D.field (fun F => F.binds fun _ _ _ _ _ _ us hl => match us, hl with | [_], _ => rfl) (fun F => ok_field F B R)
  have Lbelow : Cal P w K mg base (CX0) 1 "is_below" ["value", "many"] (spBelow K) := cal D.below (fun F => F.binds fun _ _ _ _ _ _ us hl => match us, hl with | [_, _], _ => rfl) (fun F => ok_below F B)
  have Linv : Cal P w K mg base (CX0) 2 "inverse_of" ["p", "a"] (spInv) := cal D.inv (fun F => F.binds fun _ _ _ _ _ _ us hl => match us, hl with | [_, _], _ => rfl) (fun F => ok_inv F B Lfield Lletter)
  have Lrow : Cal P w K mg base (CX0) 3 "is_row" ["value", "p", "columns"] (spRow K T1) := calC D.row (fun F => F.binds fun _ _ _ _ _ _ us hl => match us, hl with | [_, _, _], _ => rfl) (fun F => ok_row F B b1 Lletter)
  have Lmat : Cal P w K mg base (CX0) 5 "is_matrix" ["value", "p", "columns"] (spMat K T1 T2) := calC D.mat (fun F => F.binds fun _ _ _ _ _ _ us hl => match us, hl with | [_, _, _], _ => rfl) (fun F => ok_mat F B b2 Lrow)
  have Llis : Cal P w K mg base (CX0) 7 "is_listener_audiences" ["value", "p", "size"] (spLis K T1 T2 T3) := calC D.lis (fun F => F.binds fun _ _ _ _ _ _ us hl => match us, hl with | [_, _, _], _ => rfl) (fun F => ok_lis F B b3 Lmat)
  have Llot : Cal P w K mg base (CX0) 3 "is_lot" ["value", "size"] (spLot K) := cal D.lot (fun F => F.binds fun _ _ _ _ _ _ us hl => match us, hl with | [_, _], _ => rfl) (fun F => ok_lot F B Lbelow)
  have Lone : Cal P w K mg base (CX0) 1 "one_row" ["size", "places"] (spOne K) := cal D.one (fun F => F.binds fun _ _ _ _ _ _ us hl => match us, hl with | [_, _], _ => rfl) (fun F => ok_one F B)
  have Lwrong : Cal P w K mg base (CX0) 3 "first_wrong_arc" ["size", "arcs"] (spWrong K) := cal D.wrong (fun F => F.binds fun _ _ _ _ _ _ us hl => match us, hl with | [_, _], _ => rfl) (fun F => ok_wrong F B Lbelow)
  have Lstrip : Cal P w K mg base (CX0) 1 "stripped" ["net", "places"] (spStrip K CN) := cal D.strip (fun F => F.binds fun _ _ _ _ _ _ us hl => match us, hl with | [_, _], _ => rfl) (fun F => ok_strip F B)
  have X1 : Err P w K mg base "InvalidNumber" "value" (c 0) := by
    obtain ⟨fI, fdI, i1, i2, F⟩ := E1.ex
    exact ⟨E1.oex, E1.no, N.n0, fI, fdI, i1, i2, ok_err3 F, F.binds fun _ _ _ _ _ _ us hl => match us, hl with | [_, _], _ => rfl⟩
  have X2 : Err P w K mg base "InvalidLot" "value" (c 4) := by
    obtain ⟨fI, fdI, i1, i2, F⟩ := E2.ex
    exact ⟨E2.oex, E2.no, N.n4, fI, fdI, i1, i2, ok_err7 F, F.binds fun _ _ _ _ _ _ us hl => match us, hl with | [_, _], _ => rfl⟩
  have X3 : Err P w K mg base "Undefined" "what" (c 13) := by
    obtain ⟨fI, fdI, i1, i2, F⟩ := E3.ex
    exact ⟨E3.oex, E3.no, N.n13, fI, fdI, i1, i2, ok_err17 F, F.binds fun _ _ _ _ _ _ us hl => match us, hl with | [_, _], _ => rfl⟩
  have Lcan : Cal P w K mg base (L2N.CX P w) 4 "can_order" ["net", "lot"] (spCan K CN (c 4)) := cal D.can (fun F => F.binds fun _ _ _ _ _ _ us hl => match us, hl with | [_, _], _ => rfl) (fun F => ok_can F B X2 Llot Lstrip)
  have Lfree : Cal P w K mg base (CX0) 1 "_first_free" ["net", "left"] (spFree K CN) := cal D.free (fun F => F.binds fun _ _ _ _ _ _ us hl => match us, hl with | [_, _], _ => rfl) (fun F => ok_free F B)
  have Llad : Cal P w K mg base (L2N.CX P w) 5 "lot_ladder" ["net", "p", "lot"] (spLad K CN (c 0) (c 4) (c 13)) := cal D.lad (fun F => F.binds fun _ _ _ _ _ _ us hl => match us, hl with | [_, _, _], _ => rfl) (fun F => ok_lad F B X1 X3 Lfield Lcan Lfree)
  have Lhead : Cal P w K mg base (CX0) 1 "head_of" ["row"] (spHead K) := cal D.head (fun F => F.binds fun _ _ _ _ _ _ us hl => match us, hl with | [_], _ => rfl) (fun F => ok_head F B)
  have Lplus : Cal P w K mg base (CX0) 1 "plus_times" ["p", "row", "letter", "other"] (spPlus K) := cal D.plus (fun F => F.binds fun _ _ _ _ _ _ us hl => match us, hl with | [_, _, _, _], _ => rfl) (fun F => ok_plus F B)
  have Lleft : Cal P w K mg base (CX0) 2 "left_of" ["p", "space", "row"] (spLeft K) := cal D.left (fun F => F.binds fun _ _ _ _ _ _ us hl => match us, hl with | [_, _, _], _ => rfl) (fun F => ok_left F B Lhead Lplus)
  have Lwithin : Cal P w K mg base (CX0) 3 "is_within" ["p", "space", "row"] (spWithin K) := cal D.within (fun F => F.binds fun _ _ _ _ _ _ us hl => match us, hl with | [_, _, _], _ => rfl) (fun F => ok_within F B Lhead Lleft)
  have Lwith : Cal P w K mg base (CX0) 3 "with_row" ["p", "space", "row"] (spWith K) := cal D.with_ (fun F => F.binds fun _ _ _ _ _ _ us hl => match us, hl with | [_, _, _], _ => rfl) (fun F => ok_with F B Lhead Lplus Lleft Linv)
  have Lspace : Cal P w K mg base (CX0) 4 "space_of" ["p", "rows"] (spSpace K) := cal D.space (fun F => F.binds fun _ _ _ _ _ _ us hl => match us, hl with | [_, _], _ => rfl) (fun F => ok_space F B Lwith)
  have LlisT : Cal P w K mg base (CX0) 1 "is_listener_tellings" ["audience", "value"] (spLisT K CA) := cal D.lisT (fun F => F.binds fun _ _ _ _ _ _ us hl => match us, hl with | [_, _], _ => rfl) (fun F => ok_lisT F B)
  have Lstep : Cal P w K mg base (CX0) 2 "_is_step" ["audience", "step"] (spStep K CA) := cal D.step (fun F => F.binds fun _ _ _ _ _ _ us hl => match us, hl with | [_, _], _ => rfl) (fun F => ok_step F B LlisT)
  have Lholds : Cal P w K mg base (CX0) 6 "ladder_holds" ["audience", "ladder"] (spHolds K CA T1 T2) := cal D.holds (fun F => F.binds fun _ _ _ _ _ _ us hl => match us, hl with | [_, _], _ => rfl) (fun F => ok_holds F B Lmat Lspace Lstep Lwithin Lwith)
  have Lpool : Cal P w K mg base (CX0) 1 "_law_pool" ["_law_script", "_law_many"] (spPool K) := cal D.pool (fun F => F.binds fun _ _ _ _ _ _ us hl => match us, hl with | [_, _], _ => rfl) (fun F => ok_pool F B)
  have Ldraw : Cal P w K mg base (CX0) 1 "_law_draw" ["_law_pool_here", "_law_many"] (spDraw) := cal D.draw (fun F => F.binds fun _ _ _ _ _ _ us hl => match us, hl with | [_, _], _ => rfl) (fun F => ok_draw F B)
  have Larcs : Cal P w K mg base (CX0) 2 "_law_arcs" ["_law_pool_here", "_law_most", "_law_odds"] (spArcs K) := cal D.arcs (fun F => F.binds fun _ _ _ _ _ _ us hl => match us, hl with | [_, _, _], _ => rfl) (fun F => ok_arcs F B Ldraw)
  have Ltaken : Cal P w K mg base (CX0) 1 "_law_taken" ["_law_net", "_law_lot"] (spTaken K) := cal D.taken (fun F => F.binds fun _ _ _ _ _ _ us hl => match us, hl with | [_, _], _ => rfl) (fun F => ok_taken F B)
  obtain ⟨fS, fdS, FS, gS⟩ := D.same
  have bS : Binds K fdS ["_law_told_here", "_law_due"] [] := FS.binds fun _ _ _ _ _ _ us hl => match us, hl with | [_, _], _ => rfl
  have Lsame : Cal P w K mg base CX0 4 "_law_same" ["_law_told_here", "_law_due"] (spSame K 3) := ⟨fS, fdS, ok_same FS B gS bS 3, gS, FS.kp, bS⟩
  obtain ⟨fK, fdK, FK, gK⟩ := D.kinds
  have bK : Binds K fdK ["_law_e"] [] := FK.binds fun _ _ _ _ _ _ us hl => match us, hl with | [_], _ => rfl
  have okK : R4.FnP P w K mg base 1 fK fdK ["_law_e"] (lift (spKinds K c cS)) := ok_kinds FK B N
  obtain ⟨fO, fdO, FO, gO⟩ := D.alone
  have bO : Binds K fdO ["_law_e", "_law_kind"] [] := FO.binds fun _ _ _ _ _ _ us hl => match us, hl with | [_, _], _ => rfl
  have okO : R4.FnP P w K mg base 2 fO fdO ["_law_e", "_law_kind"] (lift (spAlone K c cS)) := ok_alone FO B N okK gK FK.kp bK
  have Lref : Cal P w K mg base (CX0) 6 "_law_refused" ["_law_helper", "_law_p", "_law_lot", "_law_kind", "_law_due"] (spRef K CN) := cal D.ref (fun F => F.binds fun _ _ _ _ _ _ us hl => match us, hl with | [_, _, _, _, _], _ => rfl) (fun F => ok_ref F B N Q1 Q2 Q3 E1.no E2.no E3.no Llad okO gO FO.kp bO (ok_sameH FS B gS bS 3) gS FS.kp bS)
  obtain ⟨fA, fdA, MA, FA⟩ := Z.mA
  have bA : Binds K fdA ["self", "p", "size", "listeners"] [] := FA.binds fun _ _ _ _ _ _ us hl => match us, hl with | [_, _, _, _], _ => rfl
  have okA : FnOk P w K mg base CX0 8 fA fdA ["self", "p", "size", "listeners"] (spAud K CA T1 T2 T3) := ok_aud FA B Z.aud Z.mc Lletter Lfield Llis
  obtain ⟨fU, fdU, MU, FU⟩ := Z.uN
  have bU : Binds K fdU ["self", "p"] [] := FU.binds fun _ _ _ _ _ _ us hl => match us, hl with | [_, _], _ => rfl
  have okU : FnOk P w K mg base CX0 10 fU fdU ["self", "p"] (spAudience K CN CA T1 T2 T3) := ok_audience FU B Lfield Lone MA okA bA Z.gA
  obtain ⟨fN, fdN, MN, FN⟩ := Z.mN
  have bN : Binds K fdN ["self", "size", "arcs"] [] := FN.binds fun _ _ _ _ _ _ us hl => match us, hl with | [_, _, _], _ => rfl
  have okN : FnOk P w K mg base CX0 4 fN fdN ["self", "size", "arcs"] (spNet K CN) := ok_net FN B Z.net Z.mp Lbelow Lwrong
  have Ltold : Cal P w K mg base (CX0) 11 "_law_told" ["_law_net", "_law_helper", "_law_p", "_law_lot"] (spTold K CN T1 T2 T3) := cal D.told (fun F => F.binds fun _ _ _ _ _ _ us hl => match us, hl with | [_, _, _, _], _ => rfl) (fun F => ok_told F B Ltaken Lref Llad Lsame Lholds Z.net.cl MU okU bU)
  exact ok_law FL B Lpool Larcs Ldraw Ltaken Ltold Lref MN okN bN Z.gN
end
end Lk

namespace Lk
open PySem PySem.Spec PyProof.Rows L2 GxR RZ L2H
/-! ### the head: what its Hook looks at -/
abbrev dOf (p : Str × Option Str) (x qual : Str) (st : Stmt) : He.FnD := ⟨p, x, qual, defArgs st, defBody st, defScope st⟩
abbrev fd_letter : He.FnD := dOf ("is_letter", none) "is_letter" "is_letter" sLetter
abbrev fd_field : He.FnD := dOf ("is_field", none) "is_field" "is_field" sField
abbrev fd_inv : He.FnD := dOf ("inverse_of", none) "inverse_of" "inverse_of" sInv
abbrev fd_below : He.FnD := dOf ("is_below", none) "is_below" "is_below" sBelow
abbrev fd_lot : He.FnD := dOf ("is_lot", none) "is_lot" "is_lot" sLot
abbrev fd_one : He.FnD := dOf ("one_row", none) "one_row" "one_row" sOne
abbrev fd_wrong : He.FnD := dOf ("first_wrong_arc", none) "first_wrong_arc" "first_wrong_arc" sWrong
abbrev fd_strip : He.FnD := dOf ("stripped", none) "stripped" "stripped" sStrip
abbrev fd_can : He.FnD := dOf ("can_order", none) "can_order" "can_order" sCan
abbrev fd_head : He.FnD := dOf ("head_of", none) "head_of" "head_of" sHead
abbrev fd_plus : He.FnD := dOf ("plus_times", none) "plus_times" "plus_times" sPlus
abbrev fd_left : He.FnD := dOf ("left_of", none) "left_of" "left_of" sLeft
abbrev fd_within : He.FnD := dOf ("is_within", none) "is_within" "is_within" sWithin
abbrev fd_with_ : He.FnD := dOf ("with_row", none) "with_row" "with_row" sWith
abbrev fd_space : He.FnD := dOf ("space_of", none) "space_of" "space_of" sSpace
abbrev fd_lisT : He.FnD := dOf ("is_listener_tellings", none) "is_listener" "is_listener" sLisT
abbrev fd_step : He.FnD := dOf ("_is_step", none) "_is_step" "_is_step" sStep
abbrev fd_holds : He.FnD := dOf ("ladder_holds", none) "ladder_holds" "ladder_holds" sHolds
abbrev fd_free : He.FnD := dOf ("_first_free", none) "_first_free" "_first_free" sFree
abbrev fd_lad : He.FnD := dOf ("lot_ladder", none) "lot_ladder" "lot_ladder" sLad
abbrev fd_pool : He.FnD := dOf ("_law_pool", none) "_law_pool" "_law_pool" sPool
abbrev fd_draw : He.FnD := dOf ("_law_draw", none) "_law_draw" "_law_draw" sDraw
abbrev fd_same : He.FnD := dOf ("_law_same", none) "_law_same" "_law_same" sSame
abbrev fd_kinds : He.FnD := dOf ("_law_kinds", none) "_law_kinds" "_law_kinds" sKinds
abbrev fd_alone : He.FnD := dOf ("_law_alone", none) "_law_alone" "_law_alone" sAlone
abbrev fd_arcs : He.FnD := dOf ("_law_arcs", none) "_law_arcs" "_law_arcs" sArcs
abbrev fd_taken : He.FnD := dOf ("_law_taken", none) "_law_taken" "_law_taken" sTaken
abbrev fd_ref : He.FnD := dOf ("_law_refused", none) "_law_refused" "_law_refused" sRef
abbrev fd_told : He.FnD := dOf ("_law_told", none) "_law_told" "_law_told" sTold
abbrev fd_law : He.FnD := dOf ("law", none) "law" "law" sLaw
abbrev fd_row : He.FnD := dOf ("is_row", none) "is_row" "is_row" sRow
abbrev fd_mat : He.FnD := dOf ("is_matrix", none) "is_matrix" "is_matrix" sMat
abbrev fd_lis : He.FnD := dOf ("is_listener_audiences", none) "is_listener" "is_listener" sLis
abbrev fd_netI : He.FnD := dOf ("Net", some "__init__") "__init__" "Net.__init__" sNetInit
abbrev fd_netU : He.FnD := dOf ("Net", some "audience") "audience" "Net.audience" sAudience
abbrev fd_audI : He.FnD := dOf ("Audience", some "__init__") "__init__" "Audience.__init__" sAudInit
abbrev fd_e0 : He.FnD := dOf ("InvalidNumber", some "__init__") "__init__" "InvalidNumber.__init__" (sErr 3)
abbrev fd_e4 : He.FnD := dOf ("InvalidLot", some "__init__") "__init__" "InvalidLot.__init__" (sErr 7)
abbrev fd_e13 : He.FnD := dOf ("Undefined", some "__init__") "__init__" "Undefined.__init__" (sErr 17)
def fns : List He.FnD := [fd_letter, fd_field, fd_inv, fd_below, fd_lot, fd_one, fd_wrong, fd_strip, fd_can, fd_head, fd_plus, fd_left, fd_within, fd_with_, fd_space, fd_lisT, fd_step, fd_holds, fd_free, fd_lad, fd_pool, fd_draw, fd_same, fd_kinds, fd_alone, fd_arcs, fd_taken, fd_ref, fd_told, fd_law, fd_row, fd_mat, fd_lis, fd_netI, fd_netU, fd_audI, fd_e0, fd_e4, fd_e13]
def facs : List He.Fa := [.free "isinstance", .free "int", .free "bool", .free "tuple", .free "list", .free "str", .free "len", .free "range", .free "all", .free "any", .free "enumerate", .free "zip", .free "sorted", .free "min", .free "abs", .free "ValueError", .glo "is_letter", .glo "is_field", .glo "inverse_of", .glo "is_below", .glo "is_lot", .glo "one_row", .glo "first_wrong_arc", .glo "stripped", .glo "can_order", .glo "head_of", .glo "plus_times", .glo "left_of", .glo "is_within", .glo "with_row", .glo "space_of", .glo "is_listener_tellings", .glo "_is_step", .glo "ladder_holds", .glo "_first_free", .glo "lot_ladder", .glo "_law_pool", .glo "_law_draw", .glo "_law_same", .glo "_law_kinds", .glo "_law_alone", .glo "_law_arcs", .glo "_law_taken", .glo "_law_refused", .glo "_law_told", .glo "law", .glo "is_row", .glo "is_matrix", .glo "is_listener_audiences", .glo "InvalidNumber", .glo "InvalidMatrix", .glo "InvalidAudience", .glo "InvalidNet", .glo "InvalidLot", .glo "InvalidWord", .glo "InvalidWords", .glo "InvalidSignals", .glo "InvalidLosses", .glo "InvalidText", .glo "InvalidLine", .glo "UnknownWord", .glo "TooMany", .glo "Undefined", .glo "NothingToUndo", .glo "InvalidDeed", .glo "SayError", .glo "PRIMES", .glo "Net", .glo "Audience", .int "MOST_PLACES" 12, .int "MOST_COLUMNS" 12, .cls "Net", .noat "Net" "size", .noat "Net" "arcs", .noat "Net" "knows", .cls "Audience", .noat "Audience" "p", .noat "Audience" "size", .noat "Audience" "listeners", .meth "Net" "audience", .mkr "Net", .mkr "Audience", .noat "InvalidNumber" "value", .noat "InvalidLot" "value", .noat "Undefined" "what", .exm "InvalidNumber" "SayError" true, .exm "InvalidLot" "SayError" true, .exm "Undefined" "SayError" true]
def kNm (i : Nat) : Str := match i with
  | 0 => "InvalidNumber"
  | 1 => "InvalidMatrix"
  | 2 => "InvalidAudience"
  | 3 => "InvalidNet"
  | 4 => "InvalidLot"
  | 5 => "InvalidWord"
  | 6 => "InvalidWords"
  | 7 => "InvalidSignals"
  | 8 => "InvalidLosses"
  | 9 => "InvalidText"
  | 10 => "InvalidLine"
  | 11 => "UnknownWord"
  | 12 => "TooMany"
  | 13 => "Undefined"
  | 14 => "NothingToUndo"
  | 15 => "InvalidDeed"
  | _ => "InvalidDeed"
def cN (K : PySem.W.Frag) (i : Nat) : Addr := He.ga K (kNm i)
/-- an own error class over ValueError, as it is made -/
def oexB (K : PySem.W.Frag) (C : Addr) : Bool := (match K.lookup C with
  | some ⟨.type "type", _, .cls cd, sl⟩ => (match cd.mro, sl.toList with
    | .ref C' :: bm, [_, _, _, _, some (.builtin n), _] => C' == C && (n == "ValueError.__new__" && (!cd.hasDel && (cd.hasDict && PySem.HandSPX.refsVE bm)))
    | _, _ => false)
  | _ => false) && (He.eqO (PySem.W.findIn K (.ref C) "__setattr__") (some (some (.builtin "object.__setattr__"))) && (decide (PySem.W.subIn K (.ref C) (.type "BaseException") = some true) && (decide (PySem.W.typeIn K (.ref C) = some (.type "type")) && PySem.W.keepIn K (.ref C))))
theorem oexB_ok {K : PySem.W.Frag} {C : Addr} (h : oexB K C = true) : OexC K C := by
  obtain ⟨h0, h⟩ := He.ba h
  obtain ⟨h1, h⟩ := He.ba h
  obtain ⟨h2, h⟩ := He.ba h
  obtain ⟨h3, h4⟩ := He.ba h
  refine ⟨?_, He.eqO_ok h1, of_decide_eq_true h2, of_decide_eq_true h3, h4⟩
  split at h0
  · rename_i dd cd sl ho
    split at h0
    · rename_i C' bm k0 k1 k2 k3 n k5 hm hs
      simp only [Bool.and_eq_true, beq_iff_eq, Bool.not_eq_true'] at h0
      obtain ⟨e1, e2, hdel, hdict, ht⟩ := h0
      subst e1 e2
      obtain ⟨nm, bs, mro, ns, qn, hd, sn, sub, ab, col, del⟩ := cd
      dsimp only at hm hdel hdict
      subst hm hdel hdict
      have hsl : sl = #[k0, k1, k2, k3, some (.builtin "ValueError.__new__"), k5] := by
        obtain ⟨l⟩ := sl
        simp only at hs
        rw [hs]
      subst hsl
      exact ⟨nm, qn, ns, bs, bm, sn, sub, ab, col, dd, k0, k1, k2, k3, k5, ho, ht⟩
    · cases h0
  · cases h0
/-- isinstance asks its instances rightly -/
def excB (K : PySem.W.Frag) (D : Addr) : Bool := He.eqO (PySem.W.findIn K (.ref D) "__getattribute__") (some (some (.builtin "BaseException.__getattribute__"))) && (He.eqO (PySem.W.findIn K (.ref D) "__getattr__") (some none) && (decide (PySem.W.subIn K (.ref D) (.type "BaseException") = some true) && (PySem.W.hasDictIn K D &&
  (He.eqO (PySem.W.findIn K (.ref D) "__class__") (some (some (.builtin "object.__class__"))) && (He.eqO (PySem.W.specialIn K (.builtin "object.__class__") "__get__") (some (some (.builtin "getset_descriptor.__get__"))) && (decide (PySem.W.takesIn K (.builtin "object.__class__") = some true) && decide (PySem.W.mroIn K D (.type "object") = some true)))))))
theorem excB_ok {K : PySem.W.Frag} {D : Addr} (h : excB K D = true) : L2.ExcC K D := by
  obtain ⟨h1, h⟩ := He.ba h
  obtain ⟨h2, h⟩ := He.ba h
  obtain ⟨h3, h⟩ := He.ba h
  obtain ⟨h4, h⟩ := He.ba h
  obtain ⟨h5, h⟩ := He.ba h
  obtain ⟨h6, h⟩ := He.ba h
  obtain ⟨h7, h8⟩ := He.ba h
  exact ⟨He.eqO_ok h1, He.eqO_ok h2, of_decide_eq_true h3, h4, He.eqO_ok h5, He.eqO_ok h6, of_decide_eq_true h7, of_decide_eq_true h8⟩
/-- the k-th kind and no other one; its fields can be read; it is made by an __init__ of its own -/
def er3B (K : PySem.W.Frag) (k : Nat) : Bool := excB K (cN K k) && (((List.range 16).all fun i => decide (PySem.W.kitOne K (.ref (cN K k)) (.ref (cN K i)) = some (decide (i = k)))) && (decide (PySem.W.kitOne K (.ref (cN K k)) (.ref (He.ga K "SayError")) = some true) &&
  (decide (PySem.W.kitOne K (.ref (cN K k)) (.type "ValueError") = some true) && (xfB K (cN K k) && (oexB K (cN K k) && (He.eqO (PySem.W.findIn K (.ref (cN K k)) "__init__") (some (some (.ref (He.ma K (cN K k) "__init__")))) && decide (PySem.W.typeIn K (.ref (He.ma K (cN K k) "__init__")) = some (.type "function"))))))))
theorem er3B_ok {K : PySem.W.Frag} {k : Nat} (hk : k < 16) (h : er3B K k = true) (hx : PySem.W.exmOne K (.ref (cN K k)) (.ref (He.ga K "SayError")) = some true) : Er3 K (cN K) (He.ga K "SayError") (cN K k) k ∧ OexC K (cN K k) ∧
    PySem.W.findIn K (.ref (cN K k)) "__init__" = some (some (.ref (He.ma K (cN K k) "__init__"))) ∧ PySem.W.typeIn K (.ref (He.ma K (cN K k) "__init__")) = some (.type "function") := by
  obtain ⟨h1, h⟩ := He.ba h
  obtain ⟨h2, h⟩ := He.ba h
  obtain ⟨h3, h⟩ := He.ba h
  obtain ⟨h4, h⟩ := He.ba h
  obtain ⟨h5, h⟩ := He.ba h
  obtain ⟨h6, h⟩ := He.ba h
  obtain ⟨h7, h8⟩ := He.ba h
  exact ⟨⟨⟨excB_ok h1, hk, fun i hi => of_decide_eq_true (List.all_eq_true.mp h2 i (List.mem_range.mpr hi)), of_decide_eq_true h3, of_decide_eq_true h4⟩, xfB_ok h5, hx⟩, oexB_ok h6, He.eqO_ok h7, of_decide_eq_true h8⟩
/-! ### code objects and their tables -/
def codeAd (K : PySem.W.Frag) (p : Str × Option Str) : Option Addr := match K.lookup (He.fAd K p) with
  | some ⟨_, _, .func fd, _⟩ => (match fd.code with
    | .ref c => some c
    | _ => none)
  | _ => none
def tabAd (K : PySem.W.Frag) (p : Str × Option Str) : Addr := match codeAd K p with
  | some c => (match K.lookup c with
    | some ⟨_, _, .fields vs, _⟩ => (match (vs[11]? : Option Value) with
      | some (.ref P) => P
      | _ => 0)
    | _ => 0)
  | none => 0
def emptyT : Option Obj → Bool
  | some ⟨.none, none, .fields vs, sl⟩ => vs.toList.isEmpty && sl.toList.isEmpty
  | _ => false
theorem emptyT_ok {o : Option Obj} (h : emptyT o = true) : o = some { cls := .none, data := .fields #[] } := by
  unfold emptyT at h
  split at h
  · rename_i vs sl
    obtain ⟨h1, h2⟩ := He.ba h
    obtain ⟨vs⟩ := vs
    obtain ⟨sl⟩ := sl
    have e1 : vs = [] := List.isEmpty_iff.mp h1
    have e2 : sl = [] := List.isEmpty_iff.mp h2
    subst e1 e2
    rfl
  · cases h
/-- the table T of the def at p -/
def tabB1 (g : Addr → Option Obj) (K : PySem.W.Frag) (p : Str × Option Str) (T : Addr) : Bool := match codeAd K p with
  | some c => PySem.W.codeHdIn K c T && emptyT (g T)
  | none => false
def isFr (p : Str × Option Str) : He.FnD → Bool := fun d => decide (d.at_ = p)
/-! ### the Hook -/
def checks (g : Addr → Option Obj) (K : PySem.W.Frag) (T1 T2 T3 : Addr) : Bool := (facs.all fun f => f.ok K) && ((fns.all fun d => (He.Fa.code d.at_ d.qual).ok K && PySem.W.keepIn K (.ref (He.fAd K d.at_))) && (He.tupB K "PRIMES" [.int 2, .int 3, .int 5, .int 7, .int 11, .int 13] && (er3B K 0 && (er3B K 4 && (er3B K 13 &&
  (tabB1 g K ("is_row", none) T1 && (tabB1 g K ("is_matrix", none) T2 && tabB1 g K ("is_listener_audiences", none) T3)))))))
abbrev AlM : Type := Bool × List He.FnV
def obsK (g : Addr → Option Obj) (as : List Addr) (T1 T2 T3 : Addr) : AlM := (checks g (He.frG g (as.filter fun a => !(a == T1 || (a == T2 || a == T3)))) T1 T2 T3, fns.map fun d => He.fnObs (He.frG g (as.filter fun a => !(a == T1 || (a == T2 || a == T3)))) d.at_)
def reach : List Addr := List.range 700
def obsM (g : Addr → Option Obj) : AlM := obsK g reach (tabAd (He.frG g reach) ("is_row", none)) (tabAd (He.frG g reach) ("is_matrix", none)) (tabAd (He.frG g reach) ("is_listener_audiences", none))
def valM : AlM := (true, fns.map He.FnD.val)
structure SaysM (h : Heap) (K : PySem.W.Frag) (T1 T2 T3 : Addr) : Prop where
  kin : K.In h
  n1 : K.lookup T1 = none
  n2 : K.lookup T2 = none
  n3 : K.lookup T3 = none
  e1 : h.get? T1 = some { cls := .none, data := .fields #[] }
  e2 : h.get? T2 = some { cls := .none, data := .fields #[] }
  e3 : h.get? T3 = some { cls := .none, data := .fields #[] }
  ok : ∃ g, checks g K T1 T2 T3 = true
  fn : (fns.map fun d => He.fnObs K d.at_) = fns.map He.FnD.val
theorem frG_no {g : Addr → Option Obj} {a : Addr} : ∀ {as : List Addr}, a ∉ as → (He.frG g as).lookup a = none
  | [], _ => rfl
  | b :: r, h => by
    have hb : a ≠ b := fun e => h (by rw [e]; exact List.mem_cons_self)
    have hr : a ∉ r := fun e => h (List.mem_cons_of_mem _ e)
    unfold He.frG
    rw [List.filterMap_cons]
    cases hg : g b with
    | none => exact frG_no hr
    | some o =>
      show (match a == b with | true => some o | false => (He.frG g r).lookup a) = none
      rw [show (a == b) = false from beq_false_of_ne hb]
      exact frG_no hr
def hookM : PySem.W.Hook where
  α := AlM
  obs := fun s => obsM s.heap.get?
  val := fun _ => valM
  says := fun _ h => ∃ K T1 T2 T3, SaysM h K T1 T2 T3
  of := fun w s e => by
    have e' : obsM s.heap.get? = valM := e
    have h1 := congrArg Prod.fst e'
    have h2 := congrArg Prod.snd e'
    refine ⟨_, _, _, _, He.frG_in, frG_no (fun z => ?_), frG_no (fun z => ?_), frG_no (fun z => ?_), ?_, ?_, ?_, ⟨_, h1⟩, h2⟩
    · have := (List.mem_filter.mp z).2
      simp at this
    · have := (List.mem_filter.mp z).2
      simp at this
    · have := (List.mem_filter.mp z).2
      simp at this
    · obtain ⟨_, h⟩ := He.ba h1
      obtain ⟨_, h⟩ := He.ba h
      obtain ⟨_, h⟩ := He.ba h
      obtain ⟨_, h⟩ := He.ba h
      obtain ⟨_, h⟩ := He.ba h
      obtain ⟨_, h⟩ := He.ba h
      obtain ⟨h, _⟩ := He.ba h
      unfold tabB1 at h
      split at h
      · exact emptyT_ok (He.ba h).2
      · cases h
    · obtain ⟨_, h⟩ := He.ba h1
      obtain ⟨_, h⟩ := He.ba h
      obtain ⟨_, h⟩ := He.ba h
      obtain ⟨_, h⟩ := He.ba h
      obtain ⟨_, h⟩ := He.ba h
      obtain ⟨_, h⟩ := He.ba h
      obtain ⟨_, h⟩ := He.ba h
      obtain ⟨h, _⟩ := He.ba h
      unfold tabB1 at h
      split at h
      · exact emptyT_ok (He.ba h).2
      · cases h
    · obtain ⟨_, h⟩ := He.ba h1
      obtain ⟨_, h⟩ := He.ba h
      obtain ⟨_, h⟩ := He.ba h
      obtain ⟨_, h⟩ := He.ba h
      obtain ⟨_, h⟩ := He.ba h
      obtain ⟨_, h⟩ := He.ba h
      obtain ⟨_, h⟩ := He.ba h
      obtain ⟨_, h⟩ := He.ba h
      unfold tabB1 at h
      split at h
      · exact emptyT_ok (He.ba h).2
      · cases h
  keeps := fun _ _ _ ⟨K, T1, T2, T3, S⟩ k => ⟨K, T1, T2, T3, PySem.W.Frag.In.keeps S.kin k, S.n1, S.n2, S.n3, k _ _ S.e1, k _ _ S.e2, k _ _ S.e3, S.ok, S.fn⟩
def obM (s : PySem.W.SharedT) : AlM := obsM (HandSHeadRun.getT s)
theorem obM_eq (s : PySem.W.SharedT) : obM s = hookM.obs s.abs := by
  have e : HandSHeadRun.getT s = s.abs.heap.get? := funext fun a => HandSHeadRun.getT_eq s a
  show obsM (HandSHeadRun.getT s) = obsM s.abs.heap.get?
  rw [e]
abbrev RW : PySem.W.OpenRow := PySem.W.OpenLaw.row PySem.Challenge.rw_keptandsaid_k28_ladders_of_lots
def nm0 : List Str := ["_wall", "SayError", "InvalidNumber", "InvalidMatrix", "InvalidAudience", "InvalidNet", "InvalidLot", "InvalidWord", "InvalidWords", "InvalidSignals", "InvalidLosses", "InvalidDeed", "InvalidText", "InvalidLine", "UnknownWord", "TooMany"]
def nm1 : List Str := ["Undefined", "NothingToUndo", "PRIMES", "is_letter", "is_field", "inverse_of", "MOST_COLUMNS", "is_row", "is_matrix", "is_listener", "is_listener_audiences", "Audience", "MOST_PLACES", "is_below", "is_lot", "one_row"]
def nm2 : List Str := ["first_wrong_arc", "Net", "stripped", "can_order", "head_of", "plus_times", "left_of", "is_within", "with_row", "space_of", "is_listener_tellings", "_is_step", "ladder_holds", "_first_free", "lot_ladder", "_law_pool"]
def nm3 : List Str := ["_law_draw", "_law_same", "_law_kinds", "_law_alone", "_law_arcs", "_law_taken", "_law_refused", "_law_told"]
abbrev looseN : List Str := nm0 ++ (nm1 ++ (nm2 ++ nm3))
end Lk

namespace Lk
open PySem PySem.Spec PyProof.Rows L2 GxR RZ L2H
theorem run (w : World) : HandSHeadRun.RunEq RW (PySem.W.view RW.prog [67]) hookM obM 7000 looseN w := by
  intro os
  kernel_rfl
end Lk

namespace Lk
open PySem PySem.Spec PyProof.Rows L2 GxR RZ L2H
theorem tri0 : TriplesOk (#[] : Array Value).toList := trivial
def refOf : Value → Option Addr
  | .ref c => some c
  | _ => none
section
variable {K : PySem.W.Frag} {h : Heap} {mg : Str → Option Value} {T1 T2 T3 : Addr}
theorem SaysM.fact (S : SaysM h K T1 T2 T3) (i : Nat) {f : He.Fa} (e : facs[i]? = some f := by rfl) : f.ok K = true := by
  obtain ⟨g, c⟩ := S.ok
  exact List.all_eq_true.mp (He.ba c).1 f (List.mem_of_getElem? e)
theorem SaysM.def_ (S : SaysM h K T1 T2 T3) (i : Nat) (p : Str × Option Str) (x qual : Str) (st : Stmt) (e : fns[i]? = some (dOf p x qual st) := by rfl) :
    (∃ oc od osl kV doc pm an cdv ct, K.lookup (He.fAd K p) = some ⟨oc, od, .func (PySem.W.fnOf x qual (defArgs st) (defBody st) (defScope st) .none kV doc pm an cdv ct), osl⟩ ∧ PySem.W.codeIn K cdv qual = true) ∧ PySem.W.keepIn K (.ref (He.fAd K p)) = true := by
  obtain ⟨g, c⟩ := S.ok
  have c1 := List.all_eq_true.mp (He.ba (He.ba c).2).1 _ (List.mem_of_getElem? e)
  obtain ⟨c2, c3⟩ := He.ba c1
  have e2 : (fns.map fun d => He.fnObs K d.at_)[i]? = (fns.map He.FnD.val)[i]? := by rw [S.fn]
  rw [List.getElem?_map, List.getElem?_map, e] at e2
  exact ⟨He.fn_ok (d := dOf p x qual st) (Option.some.inj e2) c2, c3⟩
theorem SaysM.fun_ (S : SaysM h K T1 T2 T3) (i : Nat) (p : Str × Option Str) (x qual : Str) (st : Stmt) (e : fns[i]? = some (dOf p x qual st) := by rfl) : ∃ fd, Fun K x qual st (He.fAd K p) fd := by
  obtain ⟨⟨oc, od, osl, kV, doc, pm, an, cdv, ct, l, c⟩, k⟩ := S.def_ i p x qual st e
  exact ⟨_, fun_mk l c k⟩
theorem SaysM.funC (S : SaysM h K T1 T2 T3) (i : Nat) (p : Str × Option Str) (x qual : Str) (st : Stmt) {g : Addr → Option Obj} {T : Addr} (t : tabB1 g K p T = true) (e : fns[i]? = some (dOf p x qual st) := by rfl) : ∃ c fd, FunC K x qual st (He.fAd K p) fd c ∧ PySem.W.CodeHd h c T := by
  obtain ⟨⟨oc, od, osl, kV, doc, pm, an, cdv, ct, l, c⟩, k⟩ := S.def_ i p x qual st e
  unfold tabB1 at t
  split at t
  · rename_i cc hc
    have hc2 := hc
    unfold codeAd at hc2
    rw [l] at hc2
    have hc3 : refOf cdv = some cc := by
      cases cdv <;> exact hc2
    cases cdv with
    | ref c' =>
      cases hc3
      exact ⟨cc, _, ⟨⟨oc, od, kV, doc, pm, an, ct, osl, rfl, l, c⟩, k⟩, PySem.W.codeHd_of_K S.kin (He.ba t).1⟩
    | _ => cases hc3
  · cases t
theorem law_at {w : World} {fa : Addr} (S : SaysM h K T1 T2 T3) (G : h.Ns mainGlobals mg) (hfa : mg "law" = some (.ref fa)) : LamX.LawAtS PySem.Challenge.rw_keptandsaid_k28_ladders_of_lots w K CX0 12 63 "_law_script" mg fa h := by
  have X := S.kin
  obtain ⟨g, ck⟩ := S.ok
  obtain ⟨_, ck⟩ := He.ba ck
  obtain ⟨_, ck⟩ := He.ba ck
  obtain ⟨kpr, ck⟩ := He.ba ck
  obtain ⟨kr0, ck⟩ := He.ba ck
  obtain ⟨kr4, ck⟩ := He.ba ck
  obtain ⟨kr13, ck⟩ := He.ba ck
  obtain ⟨kt1, ck⟩ := He.ba ck
  obtain ⟨kt2, kt3⟩ := He.ba ck
  have B : Bi mg := ⟨He.free_ok X G (S.fact 0), He.free_ok X G (S.fact 1), He.free_ok X G (S.fact 2), He.free_ok X G (S.fact 3), He.free_ok X G (S.fact 4), He.free_ok X G (S.fact 5), He.free_ok X G (S.fact 6), He.free_ok X G (S.fact 7), He.free_ok X G (S.fact 8), He.free_ok X G (S.fact 9), He.free_ok X G (S.fact 10), He.free_ok X G (S.fact 11), He.free_ok X G (S.fact 12), He.free_ok X G (S.fact 13), He.free_ok X G (S.fact 14)⟩
  have R : Pr K mg := ⟨He.ga K "PRIMES", He.glo_ok X G (S.fact 66), fun H => He.tupB_ok kpr H⟩
  have N : Nms mg (cN K) (He.ga K "SayError") := ⟨He.glo_ok X G (S.fact 49), He.glo_ok X G (S.fact 50), He.glo_ok X G (S.fact 51), He.glo_ok X G (S.fact 52), He.glo_ok X G (S.fact 53), He.glo_ok X G (S.fact 54), He.glo_ok X G (S.fact 55), He.glo_ok X G (S.fact 56), He.glo_ok X G (S.fact 57), He.glo_ok X G (S.fact 58), He.glo_ok X G (S.fact 59), He.glo_ok X G (S.fact 60), He.glo_ok X G (S.fact 61), He.glo_ok X G (S.fact 62), He.glo_ok X G (S.fact 63), He.glo_ok X G (S.fact 64), He.glo_ok X G (S.fact 65), He.free_ok X G (S.fact 15)⟩
  obtain ⟨c1, fd1, F1, C1⟩ := S.funC 30 ("is_row", none) "is_row" "is_row" sRow kt1
  obtain ⟨c2, fd2, F2, C2⟩ := S.funC 31 ("is_matrix", none) "is_matrix" "is_matrix" sMat kt2
  obtain ⟨c3, fd3, F3, C3⟩ := S.funC 32 ("is_listener_audiences", none) "is_listener" "is_listener" sLis kt3
  obtain ⟨fd_letter, F_letter⟩ := S.fun_ 0 ("is_letter", none) "is_letter" "is_letter" sLetter
  obtain ⟨fd_field, F_field⟩ := S.fun_ 1 ("is_field", none) "is_field" "is_field" sField
  obtain ⟨fd_inv, F_inv⟩ := S.fun_ 2 ("inverse_of", none) "inverse_of" "inverse_of" sInv
  obtain ⟨fd_below, F_below⟩ := S.fun_ 3 ("is_below", none) "is_below" "is_below" sBelow
  obtain ⟨fd_lot, F_lot⟩ := S.fun_ 4 ("is_lot", none) "is_lot" "is_lot" sLot
  obtain ⟨fd_one, F_one⟩ := S.fun_ 5 ("one_row", none) "one_row" "one_row" sOne
  obtain ⟨fd_wrong, F_wrong⟩ := S.fun_ 6 ("first_wrong_arc", none) "first_wrong_arc" "first_wrong_arc" sWrong
  obtain ⟨fd_strip, F_strip⟩ := S.fun_ 7 ("stripped", none) "stripped" "stripped" sStrip
  obtain ⟨fd_can, F_can⟩ := S.fun_ 8 ("can_order", none) "can_order" "can_order" sCan
  obtain ⟨fd_head, F_head⟩ := S.fun_ 9 ("head_of", none) "head_of" "head_of" sHead
  obtain ⟨fd_plus, F_plus⟩ := S.fun_ 10 ("plus_times", none) "plus_times" "plus_times" sPlus
  obtain ⟨fd_left, F_left⟩ := S.fun_ 11 ("left_of", none) "left_of" "left_of" sLeft
  obtain ⟨fd_within, F_within⟩ := S.fun_ 12 ("is_within", none) "is_within" "is_within" sWithin
  obtain ⟨fd_with_, F_with_⟩ := S.fun_ 13 ("with_row", none) "with_row" "with_row" sWith
  obtain ⟨fd_space, F_space⟩ := S.fun_ 14 ("space_of", none) "space_of" "space_of" sSpace
  obtain ⟨fd_lisT, F_lisT⟩ := S.fun_ 15 ("is_listener_tellings", none) "is_listener" "is_listener" sLisT
  obtain ⟨fd_step, F_step⟩ := S.fun_ 16 ("_is_step", none) "_is_step" "_is_step" sStep
  obtain ⟨fd_holds, F_holds⟩ := S.fun_ 17 ("ladder_holds", none) "ladder_holds" "ladder_holds" sHolds
  obtain ⟨fd_free, F_free⟩ := S.fun_ 18 ("_first_free", none) "_first_free" "_first_free" sFree
  obtain ⟨fd_lad, F_lad⟩ := S.fun_ 19 ("lot_ladder", none) "lot_ladder" "lot_ladder" sLad
  obtain ⟨fd_pool, F_pool⟩ := S.fun_ 20 ("_law_pool", none) "_law_pool" "_law_pool" sPool
  obtain ⟨fd_draw, F_draw⟩ := S.fun_ 21 ("_law_draw", none) "_law_draw" "_law_draw" sDraw
  obtain ⟨fd_same, F_same⟩ := S.fun_ 22 ("_law_same", none) "_law_same" "_law_same" sSame
  obtain ⟨fd_kinds, F_kinds⟩ := S.fun_ 23 ("_law_kinds", none) "_law_kinds" "_law_kinds" sKinds
  obtain ⟨fd_alone, F_alone⟩ := S.fun_ 24 ("_law_alone", none) "_law_alone" "_law_alone" sAlone
  obtain ⟨fd_arcs, F_arcs⟩ := S.fun_ 25 ("_law_arcs", none) "_law_arcs" "_law_arcs" sArcs
  obtain ⟨fd_taken, F_taken⟩ := S.fun_ 26 ("_law_taken", none) "_law_taken" "_law_taken" sTaken
  obtain ⟨fd_ref, F_ref⟩ := S.fun_ 27 ("_law_refused", none) "_law_refused" "_law_refused" sRef
  obtain ⟨fd_told, F_told⟩ := S.fun_ 28 ("_law_told", none) "_law_told" "_law_told" sTold
  obtain ⟨fd_law, F_law⟩ := S.fun_ 29 ("law", none) "law" "law" sLaw
  have D : DefsK K mg c1 c2 c3 := ⟨⟨_, _, F_letter, He.glo_ok X G (S.fact 16)⟩, ⟨_, _, F_field, He.glo_ok X G (S.fact 17)⟩, ⟨_, _, F_inv, He.glo_ok X G (S.fact 18)⟩, ⟨_, _, F_below, He.glo_ok X G (S.fact 19)⟩, ⟨_, _, F_lot, He.glo_ok X G (S.fact 20)⟩, ⟨_, _, F_one, He.glo_ok X G (S.fact 21)⟩, ⟨_, _, F_wrong, He.glo_ok X G (S.fact 22)⟩, ⟨_, _, F_strip, He.glo_ok X G (S.fact 23)⟩, ⟨_, _, F_can, He.glo_ok X G (S.fact 24)⟩, ⟨_, _, F_head, He.glo_ok X G (S.fact 25)⟩, ⟨_, _, F_plus, He.glo_ok X G (S.fact 26)⟩, ⟨_, _, F_left, He.glo_ok X G (S.fact 27)⟩, ⟨_, _, F_within, He.glo_ok X G (S.fact 28)⟩, ⟨_, _, F_with_, He.glo_ok X G (S.fact 29)⟩, ⟨_, _, F_space, He.glo_ok X G (S.fact 30)⟩, ⟨_, _, F_lisT, He.glo_ok X G (S.fact 31)⟩, ⟨_, _, F_step, He.glo_ok X G (S.fact 32)⟩, ⟨_, _, F_holds, He.glo_ok X G (S.fact 33)⟩, ⟨_, _, F_free, He.glo_ok X G (S.fact 34)⟩, ⟨_, _, F_lad, He.glo_ok X G (S.fact 35)⟩, ⟨_, _, F_pool, He.glo_ok X G (S.fact 36)⟩, ⟨_, _, F_draw, He.glo_ok X G (S.fact 37)⟩, ⟨_, _, F_same, He.glo_ok X G (S.fact 38)⟩, ⟨_, _, F_kinds, He.glo_ok X G (S.fact 39)⟩, ⟨_, _, F_alone, He.glo_ok X G (S.fact 40)⟩, ⟨_, _, F_arcs, He.glo_ok X G (S.fact 41)⟩, ⟨_, _, F_taken, He.glo_ok X G (S.fact 42)⟩, ⟨_, _, F_ref, He.glo_ok X G (S.fact 43)⟩, ⟨_, _, F_told, He.glo_ok X G (S.fact 44)⟩, ⟨_, _, F_law, He.glo_ok X G (S.fact 45)⟩, ⟨_, _, F1, He.glo_ok X G (S.fact 46)⟩, ⟨_, _, F2, He.glo_ok X G (S.fact 47)⟩, ⟨_, _, F3, He.glo_ok X G (S.fact 48)⟩⟩
  obtain ⟨fd_netI, F_netI⟩ := S.fun_ 33 ("Net", some "__init__") "__init__" "Net.__init__" sNetInit
  obtain ⟨fd_netU, F_netU⟩ := S.fun_ 34 ("Net", some "audience") "audience" "Net.audience" sAudience
  obtain ⟨fd_audI, F_audI⟩ := S.fun_ 35 ("Audience", some "__init__") "__init__" "Audience.__init__" sAudInit
  obtain ⟨fd_e0, F_e0⟩ := S.fun_ 36 ("InvalidNumber", some "__init__") "__init__" "InvalidNumber.__init__" (sErr 3)
  obtain ⟨fd_e4, F_e4⟩ := S.fun_ 37 ("InvalidLot", some "__init__") "__init__" "InvalidLot.__init__" (sErr 7)
  obtain ⟨fd_e13, F_e13⟩ := S.fun_ 38 ("Undefined", some "__init__") "__init__" "Undefined.__init__" (sErr 17)
  have Z : ClsK K mg (He.ga K "Net") (He.ga K "Audience") := ⟨⟨He.cls_ok (S.fact 71), He.noat_ok (S.fact 72), He.noat_ok (S.fact 73), He.noat_ok (S.fact 74)⟩, He.glo_ok X G (S.fact 67), ⟨_, _, He.mkr_ok (S.fact 80), F_netI⟩, ⟨_, _, He.meth_ok (S.fact 79), F_netU⟩,
    ⟨He.cls_ok (S.fact 75), He.noat_ok (S.fact 76), He.noat_ok (S.fact 77), He.noat_ok (S.fact 78)⟩, He.glo_ok X G (S.fact 68), ⟨_, _, He.mkr_ok (S.fact 81), F_audI⟩, He.int_ok X G (S.fact 69), He.int_ok X G (S.fact 70)⟩
  obtain ⟨Q0, o0, i0, t0⟩ := er3B_ok (by decide) kr0 (He.exm_ok (S.fact 85))
  have E0 : ErrK K (cN K 0) "value" (sErr 3) "InvalidNumber.__init__" := ⟨o0, He.noat_ok (S.fact 82), ⟨_, _, i0, t0, F_e0⟩⟩
  obtain ⟨Q4, o4, i4, t4⟩ := er3B_ok (by decide) kr4 (He.exm_ok (S.fact 86))
  have E4 : ErrK K (cN K 4) "value" (sErr 7) "InvalidLot.__init__" := ⟨o4, He.noat_ok (S.fact 83), ⟨_, _, i4, t4, F_e4⟩⟩
  obtain ⟨Q13, o13, i13, t13⟩ := er3B_ok (by decide) kr13 (He.exm_ok (S.fact 87))
  have E13 : ErrK K (cN K 13) "what" (sErr 17) "Undefined.__init__" := ⟨o13, He.noat_ok (S.fact 84), ⟨_, _, i13, t13, F_e13⟩⟩
  have efa : fa = He.ga K "law" := by
    have := hfa.symm.trans (He.glo_ok X G (S.fact 45) : mg "law" = some (.ref (He.ga K "law")))
    cases this
    rfl
  subst efa
  refine ⟨fd_law, [(c1, T1), (c2, T2), (c3, T3)], spLaw K T1 T2 T3, fun p hp => ?_, fun p hp => ?_, fun p hp => ?_, fun s v => ?_, fun H a ns hl _ ht hS => ?_, fun base _ _ tb => ?_⟩
  · simp only [List.mem_cons, List.not_mem_nil, or_false] at hp
    rcases hp with rfl | rfl | rfl
    · exact S.e1
    · exact S.e2
    · exact S.e3
  · simp only [List.mem_cons, List.not_mem_nil, or_false] at hp
    rcases hp with rfl | rfl | rfl
    · exact S.n1
    · exact S.n2
    · exact S.n3
  · simp only [List.mem_cons, List.not_mem_nil, or_false] at hp
    rcases hp with rfl | rfl | rfl
    · exact C1
    · exact C2
    · exact C3
  · obtain ⟨oc, od, kV, doc, pm, an, cdv, ct, osl, rfl, _, _⟩ := F_law.ex
    exact .of_eq rfl
  · have tg : ∀ p ∈ [(c1, T1), (c2, T2), (c3, T3)], GxR.TabG H p.2 := fun p hp => ⟨#[], ht p hp, tri0⟩
    exact ⟨a, ns, rfl, hS, hl, tg (c1, T1) (by simp), tg (c2, T2) (by simp), tg (c3, T3) (by simp), fun _ => rfl⟩
  · exact law_ok B R N D Z E0 E4 E13 Q0 Q4 Q13 hfa (tabB (tb (c1, T1) (by simp))) (tabB (tb (c2, T2) (by simp))) (tabB (tb (c3, T3) (by simp))) F_law
end
end Lk

open PySem PySem.W PySem.Calls PyProof.Rows
set_option maxHeartbeats 0 in
theorem PySem.Challenge.cw_keptandsaid_k28_ladders_of_lots_holds : PySem.Challenge.rw_keptandsaid_k28_ladders_of_lots.Holds := by
  w_on; o_law
  refine HandSHeadRun.head_any (r := OpenLaw.row PySem.Challenge.rw_keptandsaid_k28_ladders_of_lots) (q := view (OpenLaw.row PySem.Challenge.rw_keptandsaid_k28_ladders_of_lots).prog [67]) (H := Lk.hookM) (ob := Lk.obM) (M := 7000) (loose := Lk.looseN) (d := HandSHeadRun.topDef (OpenLaw.row PySem.Challenge.rw_keptandsaid_k28_ladders_of_lots).prog 67) (kwd := []) Lk.obM_eq
    (by kernel_rfl) (fun s => by kernel_rfl) Lk.run (by kernel_rfl) (by kernel_rfl) (by kernel_rfl) (by rfl) (by first | assumption | decide +kernel) (by decide +kernel) ⟨rfl, rfl, rfl, rfl, rfl, by decide +kernel⟩ ?hw ?hc
  case hw => w_witness2
  case hc =>
    refine LamX.walk_ofTsE (l := PySem.Challenge.rw_keptandsaid_k28_ladders_of_lots) (n := 63) (k := 12) (x := "_law_script") (CX := fun _ => L2.CX0) rfl (by decide) (by kernel_rfl) ⟨rfl, by decide, by decide⟩ ?F (fun _ _ _ _ _ z => z)
    intro w mg fa h Y G hmg0
    obtain ⟨K, T1, T2, T3, S⟩ := Y
    have hmg : mg ("law" : PySem.Str) = some (.ref fa) := by
      have e : (HandSHeadRun.topDef (OpenLaw.row PySem.Challenge.rw_keptandsaid_k28_ladders_of_lots).prog 67).name = ("law" : PySem.Str) := by kernel_rfl
      rw [← e]
      exact hmg0
    exact ⟨K, S.kin, Lk.law_at S G hmg⟩
