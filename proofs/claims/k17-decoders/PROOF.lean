import PyProof.Rows.All
import Wide.All
import OpenK.AllK
import Wide.FinOn
import HandS.AnyAll
import HandS.GenList
import HandS.Words
import HandS.Lambda
import HandS.ForMost
import HandS.ForExc
import HandS.IsInst
import HandS.TupAny
import HandS.Star
import HandS.Zip
import HandS.Conv
import HandS.Walk
import HandS.Defaults
import HandS.Wide
import HandS.DictTup
import HandS.ExcInit
import HandS.ExcInitHot
import HandS.ExcIs
import HandS.ExcField
import HandS.SuiteRaise
import HandS.RaiseFrom
import HandS.HotCalls
import KE.KExcIs
import KE.GoesEnum
import KE.KDictSum
import KE.KDictWalk
import HandS.Sort
import KE.KStateDown
import HandS.Head0
import HandS.Head1
import HandS.Head2
import HandS.HeadEnd
import HandS.HeadHook4
import HandS.HeadWalk
import PySem.Challenge.RW_keptandsaid_k17_decoders
set_option Elab.async false
section
set_option linter.all false
set_option maxRecDepth 100000
set_option maxHeartbeats 2000000
/-! all(elt for x in a tuple), the element a reading of the generator's own frame (calls of own defs too) -/
namespace G17
open PySem PySem.Spec PyProof.Rows L2 GxR GenW

/-! ### the generator by turns: J i holds where i items are out -/
def aProt (n : Nat) (b : Nat → Bool) (J : Nat → Shared → Prop) : Protocol := fun m _ v s kap =>
  v = .bool (b (n - 1 - m)) ∧ m < n ∧ J (n - m) s ∧ ∀ s'', J (n - m) s'' → kap (.send .none) s''
abbrev aEnd (Je : Shared → Prop) : GenEnd := fun m _ r s₁ => r = .ok .next ∧ (m = 0 ∧ Je s₁)
abbrev gCode (elt iter : Expr) (x : Str) (px : Pos) (scope : Scope) (pos : Pos) (I : Addr) (cenv : Env) : Code := .compLoop (.GeneratorExp elt [⟨.Name x px, iter, [], 0⟩] scope pos) 0 (.ref I) .none cenv
theorem over_gen {A : Around} {elt target iter : Expr} {scope : Scope} {pos : Pos} {it : Value} {env : Env} : A.over (.compLoop (.GeneratorExp elt [⟨target, iter, [], 0⟩] scope pos) 0 it .none env) [] = A.deeper env := rfl
theorem over_gen0 {A : Around} {elt target iter : Expr} {scope : Scope} {pos : Pos} {it : Value} {env : Env} : A.over (.compStart (.GeneratorExp elt [⟨target, iter, [], 0⟩] scope pos) 0 it .none env) [] = A.deeper env := rfl
section
variable {P : Program} {w : World} {A : Around} {elt iter : Expr} {x : Str} {px : Pos} {scope : Scope} {pos : Pos} {I : Addr} {cenv : Env} {n : Nat} {b : Nat → Bool} {J : Nat → Shared → Prop} {Je : Shared → Prop}
/-- one turn of the generator's loop -/
def Turns (P : Program) (w : World) (A : Around) (elt : Expr) (x : Str) (px : Pos) (I : Addr) (cenv : Env) (n : Nat) (b : Nat → Bool) (J : Nat → Shared → Prop) : Prop :=
  ∀ i s, i < n → J i s → wpAny (model P w) (A.deeper cenv) (pyNext (.ref I)) (fun r s1 => ∃ u, r = some u ∧
    wpAny (model P w) (A.deeper cenv) (letOwnedTupleGo (.Name x px) (.ref I) u) (fun _ s2 => wpAny (model P w) (A.deeper cenv) (assign (.Name x px) cenv u) (fun _ s3 =>
      wpAny (model P w) (A.deeper cenv) (eval elt cenv) (fun y s4 => y = .bool (b i) ∧ J (i + 1) s4) (fun _ _ => False) s3) (fun _ _ => False) s2) (fun _ _ => False) s1) (fun _ _ => False) s
def Lasts (P : Program) (w : World) (A : Around) (I : Addr) (cenv : Env) (n : Nat) (J : Nat → Shared → Prop) (Je : Shared → Prop) : Prop :=
  ∀ s, J n s → wpAny (model P w) (A.deeper cenv) (pyNext (.ref I)) (fun r s1 => r = none ∧ Je s1) (fun _ _ => False) s
theorem mono0 {α : Type} {M : Model} {t : Sem α} {Q Q' : α → Shared → Prop} {E : Value → Shared → Prop} {s : Shared} (h : wpAny M A t Q (fun _ _ => False) s) (hQ : ∀ a s, Q a s → Q' a s) : wpAny M A t Q' E s := wpAny_mono h hQ fun _ _ z => z.elim
theorem seg_all (hco : cenv.scope.isCoroutine = false) (turn : Turns P w A elt x px I cenv n b J) (last : Lasts P w A I cenv n J Je) :
    ∀ (k i : Nat) (s₀ s : Shared), n - i = k → i ≤ n → J i s →
      Seg (model P w) A (aEnd Je) (aProt n b J) (n - i) s₀ (gCode elt iter x px scope pos I cenv) ((model P w).den (gCode elt iter x px scope pos I cenv)) [] s := by
  intro k
  induction k with
  | zero =>
    intro i s₀ s hk hi hJ
    have hin : i = n := by omega
    subst hin
    show Seg _ A _ _ _ s₀ _ ((compTurn (.GeneratorExp elt [⟨.Name x px, iter, [], 0⟩] scope pos) 0 (.ref I) .none cenv).onRaise (leaving cenv)) [] s
    rw [compTurn_gen, Sem.onRaise_eq_wrap]
    refine seg_bind_wrap (wpAny_standAt ?_)
    refine seg_bind_wrap (mono0 (last s hJ) fun r s1 h => ?_)
    obtain ⟨rfl, he⟩ := h
    exact seg_end (.ok .next) ⟨rfl, Nat.sub_self _, he⟩
  | succ k ih =>
    intro i s₀ s hk hi hJ
    have hlt : i < n := by omega
    obtain ⟨m, hm⟩ : ∃ m, n - i = m + 1 := ⟨n - i - 1, by omega⟩
    show Seg _ A _ _ _ s₀ _ ((compTurn (.GeneratorExp elt [⟨.Name x px, iter, [], 0⟩] scope pos) 0 (.ref I) .none cenv).onRaise (leaving cenv)) [] s
    rw [compTurn_gen, Sem.onRaise_eq_wrap, hm]
    refine seg_bind_wrap (wpAny_standAt ?_)
    refine seg_bind_wrap (mono0 (turn i s hlt hJ) fun r s1 h => ?_)
    obtain ⟨u, rfl, h⟩ := h
    refine seg_bind_wrap (mono0 h fun _ s2 h2 => ?_)
    refine seg_bind_wrap (mono0 h2 fun _ s3 h3 => ?_)
    simp only [List.forIn_nil]
    refine seg_bind_wrap (wpAny_pure ?_)
    simp only [if_true]
    have hy : ∀ v, yieldOut cenv v = yieldValue v := fun v => by simp only [yieldOut, hco, Bool.false_eq_true, if_false]
    simp only [hy]
    rw [Sem.bind_eq_wrap', Sem.bind_eq_wrap', Sem.wrap_wrap, Sem.wrap_wrap]
    refine seg_wrap (mono0 h3 fun y s4 h4 => ?_)
    obtain ⟨rfl, hJ4⟩ := h4
    have e1 : n - 1 - m = i := by omega
    have e2 : n - m = i + 1 := by omega
    refine seg_at (seg_yield rfl rfl rfl ⟨by rw [e1], by omega, by rw [e2]; exact hJ4, fun s'' hJ5 => ?_⟩)
    rw [e2] at hJ5
    have e3 : m = n - (i + 1) := by omega
    rw [e3]
    exact seg_again rfl (ih (i + 1) s'' s'' (by omega) hlt hJ5)
theorem seg_all0 (hco : cenv.scope.isCoroutine = false) (turn : Turns P w A elt x px I cenv n b J) (last : Lasts P w A I cenv n J Je) (self : ∀ s (Q : Value → Shared → Prop), J 0 s → Q (.ref I) s → wpAny (model P w) (A.deeper cenv) (pyIter (.ref I)) Q (fun _ _ => False) s)
    (s₀ s : Shared) (hJ : J 0 s) :
    Seg (model P w) A (aEnd Je) (aProt n b J) n s₀ (.compStart (.GeneratorExp elt [⟨.Name x px, iter, [], 0⟩] scope pos) 0 (.ref I) .none cenv)
      ((model P w).den (.compStart (.GeneratorExp elt [⟨.Name x px, iter, [], 0⟩] scope pos) 0 (.ref I) .none cenv)) [] s := by
  have loop := seg_all (iter := iter) (scope := scope) (pos := pos) hco turn last n 0 s₀ s (Nat.sub_zero _) (Nat.zero_le _) hJ
  rw [Nat.sub_zero] at loop
  show Seg _ A _ _ _ s₀ _ ((compStart (.GeneratorExp elt [⟨.Name x px, iter, [], 0⟩] scope pos) 0 (.ref I) .none cenv).onRaise (leaving cenv)) [] s
  unfold compStart
  rw [Sem.onRaise_eq_wrap]
  show Seg _ A _ _ _ s₀ _ ((ask >>= _).wrap _ _ _ _) [] s
  refine seg_bind_wrap (wpAny_askSetting ?_)
  split
  · exact seg_again rfl loop
  · refine seg_bind_wrap (wpAny_rule ?_)
    show Seg _ A _ _ _ s₀ _ ((standAt iter.pos >>= _).wrap _ _ _ _) [] s
    refine seg_bind_wrap (wpAny_standAt (seg_bind_wrap (mono0 (self s (fun v s' => v = .ref I ∧ s' = s) hJ ⟨rfl, rfl⟩) fun v s' h => ?_)))
    obtain ⟨rfl, rfl⟩ := h
    exact seg_again rfl loop
end

/-! ### all(..) drains it -/
section
variable {P : Program} {w : World} {A : Around} {a : Addr} {g n : Nat} {b : Nat → Bool} {J : Nat → Shared → Prop} {Je : Shared → Prop} {R : Result → Shared → Prop}
theorem all_drain (hh : A.handled = none) (hd : A.depth < recursionLimit) (hJ : ∀ i s, J i s → s.heap.IsGen a g ∧ s.heap.NoLimit) (hJg : ∀ i s y, y.bare = true → J i s → J i (s.setGen g y))
    (hF : ∀ i s, i < n → b i = false → J (i + 1) s → R (.ok (.ret (.bool false))) s)
    (hE : ∀ s h', (∀ j, j < n → b j = true) → Je s → (∀ c o, s.heap.get? c = some o → h'.get? c = some o) → R (.ok (.ret (.bool true))) { s.setGen g .finished with heap := h' }) :
    ∀ (k i : Nat) (s : Shared), n - i = k → i ≤ n → (∀ j, j < i → b j = true) → J i s →
      (∃ gs, s.gens[g]? = some gs ∧ ∀ s'', J i s'' → gs.Goes (model P w) A.in1.in1 (aEnd Je) (aProt n b J) (n - i) (.send .none) s'') →
      codeAny (model P w) A (.builtin "all.loop" ⟨[.ref a], []⟩) R s := by
  intro k
  induction k with
  | zero =>
    intro i s hk hi hb hj ⟨gs, hgs, hgo⟩
    have hin : i = n := by omega
    subst hin
    obtain ⟨hg, hl⟩ := hJ _ s hj
    refine codeAny_builtin F.entry_all_loop ?_
    rw [Around.under_plainId F.plain_all_loop _]
    show wpAny _ A.in1 (pyNext (.ref a) >>= _) _ _ s
    have go := hgo _ (hJg _ s .running rfl hj)
    rw [Nat.sub_self] at go
    refine wpAny_bind (wpAny_pyNext_genexpQ (A := A.in1) (P := fun m _ s₁ => m = 0 ∧ Je s₁) hh hl hd hg hgs go (fun v s₁ gs' _ hv => ?_) (fun s₁ hp h' hk => ?_))
    · exact absurd hv.2.2.2 (fun q => False.elim (by
        have := q s₁ hv.2.2.1
        exact this))
    · refine wpAny_bind (wpAny_rule (wpAny_pure ?_))
      exact hE s₁ h' hb hp.2 hk
  | succ k ih =>
    intro i s hk hi hb hj ⟨gs, hgs, hgo⟩
    have hlt : i < n := by omega
    obtain ⟨hg, hl⟩ := hJ _ s hj
    have hgl : g < s.gens.size := (Array.getElem?_eq_some_iff.mp hgs).1
    obtain ⟨m, hm⟩ : ∃ m, n - i = m + 1 := ⟨n - i - 1, by omega⟩
    refine codeAny_builtin F.entry_all_loop ?_
    rw [Around.under_plainId F.plain_all_loop _]
    show wpAny _ A.in1 (pyNext (.ref a) >>= _) _ _ s
    have go := hgo _ (hJg _ s .running rfl hj)
    rw [hm] at go
    have e1 : n - 1 - m = i := by omega
    have e2 : n - m = i + 1 := by omega
    refine wpAny_bind (wpAny_gsz (n := g + 1) hgl (wpAny_pyNext_genexpQ (A := A.in1) (P := fun m _ s₁ => m = 0 ∧ Je s₁) hh hl hd hg hgs go (fun v s₁ gs' hbare hv => ?_) (fun s₁ hp h' hk => ?_)))
    · intro hsz
      obtain ⟨rfl, _, hJ1, hkap⟩ := hv
      have ea : n - 1 - (m + 1 - 1) = i := by omega
      have eb : n - (m + 1 - 1) = i + 1 := by omega
      rw [ea]
      rw [eb] at hJ1 hkap
      have hsz1 : g < s₁.gens.size := by
        have q : (s₁.setGen g gs').gens.size = s₁.gens.size := setGen_size _ _ _
        have hsz' : g + 1 ≤ (s₁.setGen g gs').gens.size := hsz
        omega
      have hJ2 : J (i + 1) (s₁.setGen g gs') := hJg _ _ _ hbare hJ1
      refine wpAny_bind (wpAny_holding (wpAny_truthy_bool ?_))
      refine wpAny_bind (wpAny_letGo ?_)
      cases hbi : b i with
      | true =>
        simp only [if_true]
        refine wpAny_pure ⟨plainId_quiet F.plain_all_loop _, ih (i + 1) _ (by omega) hlt (fun j hj2 => ?_) hJ2 ⟨gs', setGen_at hsz1, fun s'' hJ3 => ?_⟩⟩
        · rcases Nat.lt_or_ge j i with z | z
          · exact hb j z
          · have : j = i := by omega
            rw [this]; exact hbi
        · have e3 : n - (i + 1) = m := by omega
          rw [e3]
          exact hkap s'' hJ3
      | false =>
        simp only [Bool.false_eq_true, if_false]
        refine wpAny_bind (wpAny_rule (wpAny_pure ?_))
        exact hF i _ hlt hbi hJ2
    · exact absurd hp.1 (Nat.succ_ne_zero m)
end
end G17
end

section
set_option linter.all false
set_option maxRecDepth 100000
set_option maxHeartbeats 2000000
namespace G17
open PySem PySem.Spec PyProof.Rows L2 GenW
open GxR (TabG Tabbed inv_tab sh_eta)
open LamX (TabB)

/-- the generator expression's own scope, held against the def's: x its name, captured names that the def has as cells; no other name of the def's list N is its own -/
structure GScp (N : List Str) (sc scope : Scope) (x : Str) : Prop where
  kind : scope.kind = .function
  co : scope.isCoroutine = false
  cell : ∀ y ∈ scope.names, y.2 ≠ .cell
  dot : scope.names.lookup (".0" : Str) = some NameKind.local
  loc : scope.names.lookup x = some .local
  free : ∀ y ∈ scope.names, y.2 = .free → sc.names.lookup y.1 = some .cell
  own : ∀ y ∈ N, scope.names.lookup y ≠ some .local ∧ y ≠ x
def gscpB (N : List Str) (sc scope : Scope) (x : Str) : Bool :=
  decide (scope.kind = .function) && (!scope.isCoroutine && ((scope.names.all fun y => !decide (y.2 = .cell)) && (decide (scope.names.lookup (".0" : Str) = some NameKind.local) && (decide (scope.names.lookup x = some NameKind.local) &&
    ((scope.names.all fun y => !decide (y.2 = .free) || decide (sc.names.lookup y.1 = some .cell)) && (N.all fun y => !decide (scope.names.lookup y = some .local) && !decide (y = x)))))))
theorem gscp_by {N : List Str} {sc scope : Scope} {x : Str} (h : gscpB N sc scope x = true) : GScp N sc scope x := by
  unfold gscpB at h
  simp only [Bool.and_eq_true, Bool.or_eq_true, Bool.not_eq_true', decide_eq_true_eq, decide_eq_false_iff_not, List.all_eq_true] at h
  obtain ⟨h1, h2, h3, h4, h5, h6, h7⟩ := h
  refine ⟨h1, h2, h3, h4, h5, fun y hy e => ?_, fun y hy => h7 y hy⟩
  rcases h6 y hy with z | z
  · exact absurd e z
  · exact z

abbrev gEnvX (X : Cx) (scope : Scope) (C : Addr) (code : Value) : Env := genEnv scope (cloFrom X.env.cells scope.names []) C code builtinsNs X.env
/-- the context of the generator's frame: x ahead of the def's names; it: the walked thing's iterator; go at ga: the generator -/
def gCx (X : Cx) (x : Str) (scope : Scope) (C : Addr) (code : Value) (it : Addr) (s : Shared) (H : Hp) : Cx where
  prog := X.prog
  w := X.w
  K := X.K
  mg := X.mg
  base := X.base
  A := X.A.in1.in1.deeper (gEnvX X scope C code)
  N := x :: X.N
  s_0 := s
  H_0 := H
  env := gEnvX X scope C code
  outer := X.stack
  stack := gEnvX X scope C code :: X.stack
  ex := [it]
  fn := fun _ => false
  calm := true
  pn := []
  xe := fun _ _ => False
theorem gRoom {X : Cx} {k : Nat} {x : Str} {scope : Scope} {C : Addr} {code : Value} {it : Addr} {s : Shared} {H : Hp} (hr : Room (k + 1) X.A) : Room k (gCx X x scope C code it s H).A :=
  ⟨hr.hd, by have := hr.dp; show X.A.depth + 1 + 3 * k + 5 < _; omega, by have := hr.un; show X.A.units + 1 + 1 + 3 + 16 * k + 200 < _; omega⟩

section
variable {X : Cx} {pins : List (Addr × Obj)} {σ : L2.St} {H : Hp} {s : Shared} {x : Str} {scope : Scope}
theorem g_start {C it ga : Addr} {code : Value} {go : Obj} {h' : Heap} {g' : Array GenState} {tk : Nat} (I : Inv X pins σ H s) (S : GScp X.N X.env.scope scope x) (hh : X.A.handled = none)
    (hC : @Eq Nat C s.heap.objs.size) (hns : h'.Ns C fun y => if y = (".0" : Str) then some (.ref it) else none) (kp : ∀ b o, s.heap.get? b = some o → h'.get? b = some o) (hg : AllBare g')
    (hga : h'.get? ga = some go) (hgaC : @LT.lt Nat _ C ga) (hgo : ∀ v, go.data ≠ .cell v) (hit : @LT.lt Nat _ it C) (hitn : H it = none) (hitx : ∀ b o, X.base.get? b = some o → b ≠ it) (hitf : it ∉ frs X.stack) (hitc : ∀ y c, X.env.cells.lookup y = some c → c ≠ it) :
    Inv (gCx X x scope C code it s H) [(ga, go)] (none :: σ) H { s with heap := h', gens := g', toks := tk } := by
  have hfree : ∀ y ∈ scope.names, y.2 = .free → ∃ c, X.env.cells.lookup y.1 = some c := fun y hy e => I.ok.has _ (.inl (S.free y hy e))
  have cm : ∀ {y c}, (cloFrom X.env.cells scope.names []).lookup y = some c → X.env.cells.lookup y = some c := fun {y c} e => by
    rcases cloFrom_mem (PySem.mem_of_lookup e) with hm | ⟨h1, h2⟩
    · cases hm
    · obtain ⟨c1, hc⟩ := hfree _ h1 rfl
      have hc : X.env.cells.lookup y = some c1 := hc
      have e2 : c = c1 := by
        rw [h2, hc] <;> rfl
      rw [e2]
      exact hc
  have look : ∀ {y}, scope.names.lookup y = some .free → ∃ c, (cloFrom X.env.cells scope.names []).lookup y = some c := fun {y} hl => by
    have hy : (y, NameKind.free) ∈ scope.names := PySem.mem_of_lookup hl
    exact mem_lookup (cloFrom_has (cells := X.env.cells) (acc := []) hy)
  have cellK : ∀ {c : Addr} {v : Option Value}, s.heap.IsCell c v → h'.IsCell c v := fun {c v} ⟨o, ho, hd⟩ => ⟨_, kp _ _ ho, hd⟩
  have exE : ∀ b : Addr, b ∈ (gCx X x scope C code it s H).ex → b = it := fun b z => by simpa [gCx] using z
  refine ⟨⟨I.ok.mod, S.kind, I.ok.glob, rfl, by show s.heap.objs.size ≤ C; omega, fun y z c e1 e2 => I.ok.inj y z c (cm e1) (cm e2), fun y hy => ?_, fun y c z _ => ?_, fun _ => hh, ?_, .inr ⟨rfl, rfl⟩, fun b z => ?_, fun b o e => I.bs b o e, Nat.le_trans I.ok.bsz I.sz, fun b o e z => hitx b o e (exE b z),
      fun b z => by rw [exE b z]; exact hitf, I.stack, I.stkFree⟩,
    rfl, hg, Un.kept kp, ⟨_, hns, fun i y v e1 e2 e3 => ?_⟩, fun y c e => ?_, I.hok.fresh (by show s.heap.objs.size ≤ C; omega), fun y c e => I.freeC y c (cm e), fun p hp => ?_, I.hok.kept kp, by show (none :: σ).length = (x :: X.N).length; rw [List.length_cons, List.length_cons, I.len]⟩
  · have hy : scope.names.lookup y = some .cell ∨ scope.names.lookup y = some .free := hy
    rcases hy with hy | hy
    · exact absurd rfl (S.cell _ (PySem.mem_of_lookup hy))
    · exact look hy
  · cases (show false = true from z)
  · exact Around.frames_deeper (by show X.A.in1.in1.frames = some X.stack; exact I.ok.frames)
  · refine ⟨?_, fun y c e q => ?_⟩
    · rw [exE b z]
      exact Nat.ne_of_lt hit
    · rw [exE b z] at q
      exact hitc y c (cm e) q
  · have e3 : Vis scope y := e3
    cases i with
    | zero =>
      have q : (none : Option V) = some v := by
        have := e2
        rw [List.getElem?_cons_zero] at this
        exact Option.some.inj this
      cases q
    | succ i =>
      have e1 : X.N[i]? = some y := by
        have q : (x :: X.N)[i + 1]? = some y := e1
        rwa [List.getElem?_cons_succ] at q
      have e2 : σ[i]? = some (some v) := by
        rwa [List.getElem?_cons_succ] at e2
      rcases e3 with k | k | k
      · exact absurd k (S.own y (List.mem_of_getElem? e1)).1
      · exact absurd rfl (S.cell _ (PySem.mem_of_lookup k))
      · obtain ⟨m, hn, hl⟩ := I.loc
        have hc := S.free _ (PySem.mem_of_lookup k) rfl
        obtain ⟨w', r, q⟩ := hl i y v e1 e2 (.inr (.inl hc))
        obtain ⟨c2, h2⟩ := look k
        refine ⟨w', r, .inr ⟨.inr k, c2, h2, ?_⟩⟩
        have c1 := cm h2
        rcases q with ⟨k', _⟩ | ⟨_, c3, e', z⟩
        · have k' : X.env.scope.names.lookup y = some .local := k'
          rw [show X.env.scope.names.lookup y = some .cell from hc] at k'
          cases k'
        · rw [c1] at e'
          cases e'
          exact cellK z
  · obtain ⟨w', z⟩ := I.cell y c (cm e)
    exact ⟨w', cellK z⟩
  · have e : p = (ga, go) := by simpa [gCx] using hp
    rw [e]
    refine ⟨hga, I.hok.fresh (by show s.heap.objs.size ≤ ga; omega), ?_, ?_, hgo⟩
    · exact Nat.ne_of_gt hgaC
    · show ga ∉ frs X.stack
      intro hm
      rcases List.mem_cons.mp (I.stkSub _ hm) with z | z
      · have h1 : @LT.lt Nat _ X.env.locals s.heap.objs.size := I.lt
        rw [← z] at h1
        have h2 : @LT.lt Nat _ ga s.heap.objs.size := h1
        omega
      · exact I.nofs (by show s.heap.objs.size ≤ ga; omega) z
/-- back in the def's context -/
theorem g_end {C it : Addr} {code : Value} {pg : List (Addr × Obj)} {σ' : L2.St} {H' : Hp} {s' : Shared} (I : Inv X pins σ H s) (J : Inv (gCx X x scope C code it s H) pg σ' H' s')
    (hit : (it ∈ X.ex ∨ X.s_0.heap.objs.size ≤ it) ∧ it ≠ X.env.locals ∧ (∀ y c, X.env.cells.lookup y = some c → c ≠ it) ∧ ∀ p ∈ X.pn ++ pins, p.1 ≠ it) : Inv X pins σ H' s' :=
  I.call' (ch := [it]) J.os J.base J.hok J.bare fun b hb => by
    rw [List.mem_singleton.mp hb]
    exact hit
end

/-- setting a generator's state changes nothing that is told -/
theorem Inv_setGen {X : Cx} {pins : List (Addr × Obj)} {σ : L2.St} {H : Hp} {s : Shared} {g : Nat} {y : GenState} (I : Inv X pins σ H s) (hy : y.bare = true) : Inv X pins σ H (s.setGen g y) :=
  ⟨I.ok, I.os, allBare_setGen I.bare hy, I.base, I.loc, I.cell, I.free, I.freeC, I.pin, I.hok, I.len⟩
end G17
end

section
set_option linter.all false
set_option maxRecDepth 100000
set_option maxHeartbeats 2000000
namespace G17
open PySem PySem.Spec PyProof.Rows L2 GenW
open GxR (TabG Tabbed inv_tab sh_eta)
open LamX (TabB)
/-- all(elt for x in e), e a tuple: the def's table may have grown; W by the turn -/
def tAllT (K : PySem.W.Frag) (P : Addr) (te tq : TE) : TE := fun σ H Q => te σ H fun v H1 => ∃ (ta : Addr) (xs : List V), v = .ref ta ∧ SqT K H1 ta xs ∧ TabG H1 P ∧ ∀ H2, Tabbed P H1 H2 → ∃ (W : Nat → Hp → Prop) (b : Nat → Bool), W 0 H2 ∧ (∀ i H3, i ≤ xs.length → W i H3 → SqT K H3 ta xs) ∧
  (∀ i y H3, xs[i]? = some y → W i H3 → tq (some y :: σ) H3 fun z H4 => z = .bl (b i) ∧ W (i + 1) H4) ∧
  (∀ i H3, i < xs.length → b i = false → W (i + 1) H3 → Q (.bl false) H3) ∧ (∀ H3, (∀ j, j < xs.length → b j = true) → W xs.length H3 → Q (.bl true) H3)
section
variable {X : Cx}
theorem pe_allT {c P : Addr} {elt iter : Expr} {x : Str} {px p pos gpos : Pos} {scope : Scope} {te tq : TE} {k : Nat} (hr : Room (k + 1) X.A) (hg : Gl X "all") (hm : X.mg "all" = none) (TB : TabB X.base X.mg c P) (hcode : X.env.code = .ref c) (S : GScp X.N X.env.scope scope x) (hN : X.N.Nodup)
    (hi : PE X iter te) (he : ∀ (C : Addr) (code : Value) (it : Addr) (s : Shared) (H : Hp), PE (gCx X x scope C code it s H) elt tq) (hs : ∀ v, genFold iter X.env v = pure v := by intro _; rfl)
    (hst : starEach [.GeneratorExp elt [⟨.Name x px, iter, [], 0⟩] scope gpos] X.env = (false, eval (.GeneratorExp elt [⟨.Name x px, iter, [], 0⟩] scope gpos) X.env) :: starEach [] X.env := by rfl) :
    PE X (.Call (.Name "all" p) [.GeneratorExp elt [⟨.Name x px, iter, [], 0⟩] scope gpos] [] pos) (tAllT X.K P te tq) := by
  refine ⟨fun pins s σ H Q I h => ?_⟩
  refine wpAny_Call_Name_kw (ld_blt I hg hm (by decide +kernel : bootBuiltins "all" = some (.builtin "all")) ?_)
  refine PyProof.Rows.callWith_builtin1 ?_ hst (by rfl)
  rw [hst]
  show wpAny _ _ (spliced ((false, eval (.GeneratorExp elt [⟨.Name x px, iter, [], 0⟩] scope gpos) X.env) :: backTo pos (starEach [] X.env))) _ _ s
  have hfree : ∀ y ∈ scope.names, y.2 = .free → ∃ c, X.env.cells.lookup y.1 = some c := fun y hy e => I.ok.has _ (.inl (S.free y hy e))
  refine Calls.spliced_cons (wpAny_GeneratorExp_make S.co (closure_ok hfree) S.cell S.dot S.kind hr.depth ?_ hs)
  refine thn (hi.run pins s σ H _ I h) fun xv s1 ⟨v, H1, I1, r1, q1⟩ => ?_
  obtain ⟨ta, xs, rfl, hT, ⟨ps, hP, ht⟩, q1⟩ := q1
  obtain rfl : xv = Value.ref ta := r1
  obtain ⟨its, rv, pt, hz⟩ := I1.tuple hT
  refine wpAny_pyIter_tuple (show s1.heap.IsTuple ta its.toArray from pt) ?_
  have lim1 := I1.nolimit
  -- the iterator
  generalize ho : ({ cls := .type "tuple_iterator", data := .fields #[.ref ta, .int 0 0] } : Obj) = o
  have I1' : Inv X pins σ H1 { s1 with heap := s1.heap.push o } := I1.kept (t' := s1.toks) fun b o e => Heap.get?_push_of_some _ e
  have st1 : (s1.heap.push o).IsTupleIter s1.heap.objs.size ta 0 := by
    rw [← ho]
    exact ⟨_, Heap.get?_push_size _ rfl, rfl, rfl⟩
  have fp1 := I1.fpOk (b := s1.heap.objs.size) (Nat.le_refl _) (I1.hok.fresh (Nat.le_refl _))
  refine ⟨I1'.nolimit, ?_⟩
  -- behind the code object
  have cont : ∀ (code : Value) (h3 : Heap) (tk : Nat) (H2 : Hp), Tabbed P H1 H2 → Inv X pins σ H2 { s1 with heap := h3, toks := tk } → h3.IsTupleIter s1.heap.objs.size ta 0 → (s1.heap.push o).objs.size ≤ h3.objs.size →
      wpAny (model X.prog X.w) X.A (builtinsFor X.env.globals X.env.builtins) (fun bi s₄ => ∀ h', h'.Ns s₄.heap.objs.size (fun y => if y = ".0" then some (.ref s1.heap.objs.size) else none) → Heap.SameBut s₄.heap.objs.size (s₄.heap.push { cls := .type "frame", data := .dict #[] }) h' →
        wpAny (model X.prog X.w) X.A (spliced (backTo pos (starEach [] X.env))) (fun us s5 => wpAny (model X.prog X.w) X.A (call (.builtin "all") (.ref h'.objs.size :: us)) (EP X pins σ Q) X.xe s5) X.xe { s₄ with
            gens := s₄.gens.push (.fresh (.compStart (.GeneratorExp elt [⟨.Name x px, iter, [], 0⟩] scope gpos) 0 (.ref s1.heap.objs.size) .none (genEnv scope (cloFrom X.env.cells scope.names []) s₄.heap.objs.size code bi X.env))),
            toks := s₄.toks + 1 + 1 + 1,
            heap := h'.push { cls := .type "generator", data := .fields #[.int s₄.gens.size 0, .str "<genexpr>" (s₄.toks + 1), .str (X.env.qual ++ "<genexpr>") (s₄.toks + 1 + 1)] } }) X.xe { s1 with heap := h3, toks := tk } := by
    intro code h3 tk H2 hTab I2 st2 hsz
    obtain ⟨bm, ob, e1, e2, e3, e4, e5, e6, e7, e8⟩ := TB.bm
    refine wpAny_builtinsFor (m := X.mg) (by rw [I2.ok.glob]; exact I2.mod.glob.keeps I2.bk) e1 e2 (I2.bk _ _ e5) e6 e7 e8 ?_
    intro h' hn' hs'
    obtain ⟨W, b, w0, hst2, step, hfa, htr⟩ := q1 H2 hTab
    refine Calls.spliced_nil ?_
    -- the generator's frame
    have sz1 : @Eq Nat (s1.heap.push o).objs.size (s1.heap.objs.size + 1) := Heap.size_push ..
    have hsz3 : @LT.lt Nat _ s1.heap.objs.size h3.objs.size := by
      have : @LE.le Nat _ (s1.heap.push o).objs.size h3.objs.size := hsz
      omega
    have hsz' : @Eq Nat h'.objs.size (h3.objs.size + 1) := by rw [hs'.1, Heap.size_push]
    have keep' : ∀ b o, h3.get? b = some o → h'.get? b = some o := fun b o e => hs'.extBut b o (Nat.ne_of_lt (Heap.lt_size e)) (Heap.get?_push_of_some _ e)
    generalize hgo : ({ cls := .type "generator", data := .fields #[.int s1.gens.size 0, .str "<genexpr>" (tk + 1), .str (X.env.qual ++ "<genexpr>") (tk + 1 + 1)] } : Obj) = go
    have hgoc : go.cls = .type "generator" := by rw [← hgo]
    have hgod : go.data = .fields #[.int s1.gens.size 0, .str "<genexpr>" (tk + 1), .str (X.env.qual ++ "<genexpr>") (tk + 1 + 1)] := by rw [← hgo]
    have hgos : go.slots = #[] := by rw [← hgo]
    have hgp : (h'.push go).get? h'.objs.size = some go := by
      rw [← hgo]
      exact Heap.get?_push_size _ rfl
    have keep5 : ∀ b o, h3.get? b = some o → (h'.push go).get? b = some o := fun b o e => Heap.get?_push_of_some _ (keep' b o e)
    have isG : ∀ h : Heap, h.get? h'.objs.size = some go → h.IsGen h'.objs.size s1.gens.size := fun h e => ⟨go, _, _, e, hgoc, hgod, hgos⟩
    have hgd : ∀ v, go.data ≠ .cell v := fun v q => by rw [hgod] at q; cases q
    have G0 := g_start (x := x) (scope := scope) (C := h3.objs.size) (it := s1.heap.objs.size) (ga := h'.objs.size) (code := code) (go := go) (h' := h'.push go)
      (g' := s1.gens.push (.fresh (.compStart (.GeneratorExp elt [⟨.Name x px, iter, [], 0⟩] scope gpos) 0 (.ref s1.heap.objs.size) .none (gEnvX X scope h3.objs.size code)))) (tk := tk + 1 + 1 + 1)
      I2 S hr.hd rfl (hn'.push _) keep5 (I2.bare.push rfl) hgp (by omega) hgd hsz3 (by
        by_cases z : s1.heap.objs.size = P
        · have := I1.hok.fresh (a := P) (by rw [← z]; exact Nat.le_refl _)
          rw [hP] at this; cases this
        · rw [hTab.2 _ z]; exact fp1.1) (fun b ob e z => by
        have := Heap.lt_size (I1.bk b ob e)
        rw [z] at this
        exact Nat.lt_irrefl _ this) (fun z => by
        rcases List.mem_cons.mp (I1.stkSub _ z) with z | z
        · exact fp1.2.1 z
        · exact fp1.2.2.1 z) fun y c e => fp1.2.2.2.2.1 y c e
    have hN' : (x :: X.N).Nodup := List.nodup_cons.mpr ⟨fun h => (S.own x h).2 rfl, hN⟩
    have T : Turn X.prog X.w X.K (.Name x px) (Itt X.K ta) [s1.heap.objs.size] s1.heap.objs.size (fun i h => h.IsTupleIter s1.heap.objs.size ta i) := turn_tuple ta _
    have hne : h'.objs.size ≠ s1.heap.objs.size := by
      have : @LT.lt Nat _ s1.heap.objs.size h'.objs.size := by omega
      exact Nat.ne_of_gt this
    have fpG : ∀ {σ' : L2.St} {H' : Hp} {s' : Shared}, Inv (gCx X x scope h3.objs.size code s1.heap.objs.size { s1 with heap := h3, toks := tk } H2) [(h'.objs.size, go)] σ' H' s' → H' s1.heap.objs.size = none →
        ∀ b ∈ [s1.heap.objs.size], FpOk (gCx X x scope h3.objs.size code s1.heap.objs.size { s1 with heap := h3, toks := tk } H2) [(h'.objs.size, go)] H' b := fun {σ' H' s'} J hn b hb => by
      have e : b = s1.heap.objs.size := List.mem_singleton.mp hb
      subst e
      have me : s1.heap.objs.size ∈ (gCx X x scope h3.objs.size code s1.heap.objs.size { s1 with heap := h3, toks := tk } H2).ex := List.mem_singleton.mpr rfl
      refine ⟨hn, (J.ok.exf _ me).1, J.ok.exfs _ me, .inl me, (J.ok.exf _ me).2, fun p hp => ?_⟩
      have e : p = (h'.objs.size, go) := by simpa [gCx] using hp
      rw [e]
      exact hne
    have it2 : H2 s1.heap.objs.size = none := by
        by_cases z : s1.heap.objs.size = P
        · have := I1.hok.fresh (a := P) (by rw [← z]; exact Nat.le_refl _)
          rw [hP] at this; cases this
        · rw [hTab.2 _ z]; exact fp1.1
    have back : ∀ {σ' : L2.St} {H' : Hp} {s' : Shared}, Inv (gCx X x scope h3.objs.size code s1.heap.objs.size { s1 with heap := h3, toks := tk } H2) [(h'.objs.size, go)] σ' H' s' → Inv X pins σ H' s' := fun {σ' H' s'} J =>
      g_end I2 J ⟨fp1.2.2.2.1, fp1.2.1, fp1.2.2.2.2.1, fp1.2.2.2.2.2⟩
    have turns : Turns X.prog X.w X.A.in1.in1 elt x px s1.heap.objs.size (gEnvX X scope h3.objs.size code) xs.length b
        (fun i s' => ∃ (v0 : Option V) (H3 : Hp), Inv (gCx X x scope h3.objs.size code s1.heap.objs.size { s1 with heap := h3, toks := tk } H2) [(h'.objs.size, go)] (v0 :: σ) H3 s' ∧ s'.heap.IsTupleIter s1.heap.objs.size ta i ∧ H3 s1.heap.objs.size = none ∧ W i H3) := by
      intro i s3 hlt ⟨v0, H3, I3, st3, n3, w3⟩
      have hT3 := hst2 i H3 (Nat.le_of_lt hlt) w3
      refine mono0 (T.item (gCx X x scope h3.objs.size code s1.heap.objs.size { s1 with heap := h3, toks := tk } H2) rfl rfl rfl rfl i _ s3 _ H3 (fun _ _ => False) I3 (fpG I3 n3) st3 ⟨xs, xs[i], hT3, by simp [hlt]⟩) fun r s4 ⟨u, hu, h4⟩ => ⟨u, hu, mono0 h4 fun _ s5 ⟨y, H5, I5, r5, hyld, st5, n5⟩ => ?_⟩
      obtain ⟨eH, hy⟩ := hyld
      subst eH
      have hy2 := hy xs hT3
      have I5' := I5.pinned (fpG I5 n3) (T.obj _ _ st5)
      refine mono0 ((pg_name (X := gCx X x scope h3.objs.size code s1.heap.objs.size { s1 with heap := h3, toks := tk } H2) (i := 0) (x := x) (pos := px) hN' rfl (.inl S.loc) (hf := .inr S.loc)).run _ s5 _ H5 y u (fun σ6 H6 => σ6 = some y :: σ ∧ H6 = H5) I5' r5 ⟨rfl, rfl⟩) fun _ s6 ⟨σ6, H6, I6, e6, e6'⟩ => ?_
      subst e6 e6'
      refine mono0 ((he _ _ _ _ _).run _ s6 _ H6 _ I6 (step i y H6 hy2 w3)) fun yv s7 ⟨z, H7, I7, r7, ez, w7⟩ => ?_
      subst ez
      obtain rfl : yv = Value.bool (b i) := r7
      have key := fun o (e : s5.heap.get? s1.heap.objs.size = some o) => I7.pin (s1.heap.objs.size, o) (List.mem_append_right _ (List.mem_append_right _ (mem_pinsAt (List.mem_singleton.mpr rfl) e)))
      obtain ⟨oi, eoi, _⟩ := T.obj _ _ st5 _ (List.mem_singleton.mpr rfl)
      exact ⟨rfl, some y, H7, I7.unpinned, T.keep _ _ _ st5 fun b hb o e => by
        rw [List.mem_singleton.mp hb] at e ⊢
        exact (key o e).1, (key oi eoi).2.1, w7⟩
    have lasts : Lasts X.prog X.w X.A.in1.in1 s1.heap.objs.size (gEnvX X scope h3.objs.size code) xs.length
        (fun i s' => ∃ (v0 : Option V) (H3 : Hp), Inv (gCx X x scope h3.objs.size code s1.heap.objs.size { s1 with heap := h3, toks := tk } H2) [(h'.objs.size, go)] (v0 :: σ) H3 s' ∧ s'.heap.IsTupleIter s1.heap.objs.size ta i ∧ H3 s1.heap.objs.size = none ∧ W i H3)
        (fun s' => ∃ (v0 : Option V) (H3 : Hp), Inv (gCx X x scope h3.objs.size code s1.heap.objs.size { s1 with heap := h3, toks := tk } H2) [(h'.objs.size, go)] (v0 :: σ) H3 s' ∧ W xs.length H3) := by
      intro s3 ⟨v0, H3, I3, st3, n3, w3⟩
      have hT3 := hst2 _ H3 (Nat.le_refl _) w3
      exact mono0 (T.done (gCx X x scope h3.objs.size code s1.heap.objs.size { s1 with heap := h3, toks := tk } H2) rfl rfl rfl rfl _ _ s3 _ H3 (fun _ _ => False) I3 (fpG I3 n3) st3 ⟨xs, hT3, Nat.le_refl _⟩) fun r s4 ⟨hr4, I4⟩ => ⟨hr4, v0, H3, I4, w3⟩
    refine call_function_tree F.kind_all F.plain_all F.entry_all (F.args_all1 _) ?_
    unfold Builtin.«all»
    refine wpAny_bind (m := oneArg "all" _) (wpAny_pure ?_)
    refine wpAny_bind (wpAny_pyIter_gen (isG _ hgp) ?_)
    refine wpAny_pure ⟨plainId_quiet F.plain_all_loop _, ?_⟩
    refine all_drain (P := X.prog) (w := X.w) (A := X.A) (a := h'.objs.size) (g := s1.gens.size) (n := xs.length) (b := b)
      (J := fun i s' => ∃ (v0 : Option V) (H3 : Hp), Inv (gCx X x scope h3.objs.size code s1.heap.objs.size { s1 with heap := h3, toks := tk } H2) [(h'.objs.size, go)] (v0 :: σ) H3 s' ∧ s'.heap.IsTupleIter s1.heap.objs.size ta i ∧ H3 s1.heap.objs.size = none ∧ W i H3)
      (Je := fun s' => ∃ (v0 : Option V) (H3 : Hp), Inv (gCx X x scope h3.objs.size code s1.heap.objs.size { s1 with heap := h3, toks := tk } H2) [(h'.objs.size, go)] (v0 :: σ) H3 s' ∧ W xs.length H3)
      hr.hd hr.depth (fun i s' ⟨v0, H3, I3, _⟩ => ⟨isG _ (I3.pin (h'.objs.size, go) (List.mem_append_right _ (List.mem_singleton.mpr rfl))).1, I3.nolimit⟩)
      (fun i s' y hy ⟨v0, H3, I3, r⟩ => ⟨v0, H3, Inv_setGen I3 hy, r⟩) (fun i s' hi hb ⟨v0, H3, I3, _, _, w3⟩ => ?_) (fun s' h2 hb ⟨v0, H3, I3, w3⟩ hk => ?_)
      xs.length 0 _ (Nat.sub_zero _) (Nat.zero_le _) (fun j hj => absurd hj (Nat.not_lt_zero _)) ⟨none, H2, G0, ?_, it2, w0⟩ ⟨_, Array.getElem?_push_size .., fun s'' hJ => ⟨rfl, ?_⟩⟩
    · exact st2.at fun o e => keep5 _ o e
    · rw [Nat.sub_zero]
      exact seg_all0 S.co turns lasts (fun s3 Q3 ⟨v0, H3, I3, st3, _⟩ hq => T.self _ 0 s3 Q3 _ st3 hq) _ _ hJ
    · exact ⟨.bl false, H3, back I3, rfl, hfa i H3 hi hb w3⟩
    · exact ⟨.bl true, H3, Inv_setGen (s := { s' with heap := h2 }) ((back I3).kept (t' := s'.toks) hk) rfl, rfl, htr H3 hb w3⟩
  have hPs : (s1.heap.push o).get? P = some { cls := .none, data := .fields ps } := I1'.hok P _ hP
  have cd : PySem.W.CodeHd (s1.heap.push o) c P := TB.code.keeps I1'.bk
  have itP : s1.heap.objs.size ≠ P := fun z => by
    have := I1.hok.fresh (a := P) (by rw [← z]; exact Nat.le_refl _)
    rw [hP] at this; cases this
  cases hf : codeAmong gpos ps.toList with
  | none =>
    refine wpAny_genexprCodeX hcode (cd.code hPs ht) (cd.tab hPs) hf fun c' h' tk hx hge hlt hco' _ htab' _ => ?_
    obtain ⟨o1, vs, f1, tf, fl, tg, inF, tx, tt, op, _, _, _, _, _, _, _, _, _, htr, _⟩ := hco'
    have J := inv_tab (more := #[rawInt gpos.line, rawInt gpos.col, .ref c']) (h' := h') (g' := s1.gens) (d' := s1.drawn) (t' := tk) I1' hP (fun b ob hb e => hx b ob hb e) htab'.2 I1.bare
    refine cont _ h' tk _ ⟨⟨_, upd_same, htr⟩, fun b hb => upd_ne hb⟩ J (st1.at fun ob e => hx _ ob itP e) (Nat.le_trans hge (Nat.le_of_lt hlt))
  | some cv =>
    refine wpAny_genexprCode_hit hcode (cd.code hPs ht) hf ?_
    exact cont cv (s1.heap.push o) s1.toks H1 ⟨⟨ps, hP, ht⟩, fun _ _ => rfl⟩ I1' st1 (Nat.le_refl _)
end
end G17
end

section
set_option linter.all false
set_option maxRecDepth 100000
set_option maxHeartbeats 2000000
/-! the text, what stays, what is told of values -/
namespace K17
open PySem PySem.Spec PyProof.Rows L2 G17
open GxR (TabG Tabbed)

/-! ### the text -/
def topS (i : Nat) : Stmt := PySem.Challenge.pw_keptandsaid_k17_decoders.main.body.getD i (.Pass ⟨0, 0, 0, 0⟩)
/-- a def as it stands behind the top, by the module's name x (its own name nm) -/
def FunAt (K : PySem.W.Frag) (mg : Str → Option Value) (x nm : Str) (st : Stmt) (f : Addr) (fd : FuncData) : Prop :=
  FunD K nm nm (defArgs st) (defBody st) (defScope st) [] [] f fd ∧ mg x = some (.ref f)
/-- a def that may be called by the module's name x -/
structure Cal (P : Program) (w : World) (K : PySem.W.Frag) (mg : Str → Option Value) (base : Heap) (CX : CXT) (x : Str) (k : Nat) (ps : List Str) (sp : Sp) : Prop where
  ex : ∃ f fd, FnOk P w K mg base CX k f fd ps sp ∧ mg x = some (.ref f) ∧ PySem.W.keepIn K (.ref f) = true ∧ Binds K fd ps []
section
variable {X : Cx} {CX : CXT} {k k' : Nat} {ps : List Str} {sp : Sp} {E : XK} {x : Str} {p pos : Pos} {e : Expr} {es : List Expr} {t : TA}
theorem pe_cal (c : Cal X.prog X.w X.K X.mg X.base CX x k ps sp) (hr : Room k' X.A) (hk : k ≤ k') (hg : Gl X x) (hx : Passes CX X E) (ha : PA X (e :: es) t) (hdb : (x == ("__debug__" : Str)) = false := by decide)
    (he : starEach (e :: es) X.env = (false, eval e X.env) :: starEach es X.env := by rfl) (hpl : (backTo pos (starEach es X.env)).any (·.1) = false := by rfl) : PE X (.Call (.Name x p) (e :: es) [] pos) (tCall sp [] E t) := by
  obtain ⟨f, fd, F, hm, kp, b⟩ := c.ex
  exact pe_call F (hr.mono hk) hg hm kp b .nil hx ha hdb he hpl
theorem pe_calS {E : L2.St → XK} (c : Cal X.prog X.w X.K X.mg X.base CX x k ps sp) (hr : Room k' X.A) (hk : k ≤ k') (hg : Gl X x) (hx : ∀ σ, PassesAt CX X σ (E σ)) (ha : PA X (e :: es) t) (hdb : (x == ("__debug__" : Str)) = false := by decide)
    (he : starEach (e :: es) X.env = (false, eval e X.env) :: starEach es X.env := by rfl) (hpl : (backTo pos (starEach es X.env)).any (·.1) = false := by rfl) : PE X (.Call (.Name x p) (e :: es) [] pos) (tCallS sp E t) := by
  obtain ⟨f, fd, F, hm, kp, b⟩ := c.ex
  exact pe_callS F (hr.mono hk) hg hm kp b hx ha hdb he hpl
end
section
variable {P : Program} {w : World} {K : PySem.W.Frag} {mg : Str → Option Value} {base : Heap} {x nm : Str} {st : Stmt} {N ps : List Str} {k : Nat} {sp : Sp}
/-- THE RULE for a def of the text (nothing leaves it) -/
theorem cal_of (F : ∃ f fd, FunAt K mg x nm st f fd) (S : FnScope N ps (defScope st))
    (hb : ∀ (kV doc pm : Value) (an : Option Addr) (cdv ct : Value) (us : List Value), us.length = ps.length → bindArgs (PySem.W.fnOf nm nm (defArgs st) (defBody st) (defScope st) .none kV doc pm an cdv ct) ⟨us, []⟩ = pure (ps.zip us))
    (len : ∀ vs H Q E, sp vs H Q E → vs.length = ps.length)
    (hbody : ∀ (f : Addr) (cdv : Value) (A : Around) (outer : List Env) (s : Shared) (H : Hp) (vs : List V) (Q : VK) (E : XK), Room k (A.deeper (envOfC nm (defScope st) s.heap.objs.size f cdv)) → sp vs H Q E →
      ∃ t, PSs (cxOf CX0 P w K mg base N nm (defScope st) f cdv A outer s H E).nox (defBody st) t ∧ t { nx := fun _ H' => Q .non H', rt := Q } (start N vs) H) : Cal P w K mg base CX0 x (k + 1) ps sp := by
  obtain ⟨f, fd, F, hm⟩ := F
  exact ⟨f, fd, F.ok S len fun cdv A outer s H vs Q E hr h => let ⟨t, a, b⟩ := hbody f cdv A outer s H vs Q E hr h; ⟨t, a.nox, b⟩, hm, F.kp, F.bindsN hb⟩
/-- .. of a def that errors may leave -/
theorem cal_ofX {CX : CXT} (F : ∃ f fd, FunAt K mg x nm st f fd) (S : FnScope N ps (defScope st))
    (hb : ∀ (kV doc pm : Value) (an : Option Addr) (cdv ct : Value) (us : List Value), us.length = ps.length → bindArgs (PySem.W.fnOf nm nm (defArgs st) (defBody st) (defScope st) .none kV doc pm an cdv ct) ⟨us, []⟩ = pure (ps.zip us))
    (len : ∀ vs H Q E, sp vs H Q E → vs.length = ps.length)
    (hbody : ∀ (f : Addr) (cdv : Value) (A : Around) (outer : List Env) (s : Shared) (H : Hp) (vs : List V) (Q : VK) (E : XK), Room k (A.deeper (envOfC nm (defScope st) s.heap.objs.size f cdv)) → sp vs H Q E →
      ∃ t, PSs (cxOf CX P w K mg base N nm (defScope st) f cdv A outer s H E) (defBody st) t ∧ t { nx := fun _ H' => Q .non H', rt := Q } (start N vs) H) : Cal P w K mg base CX x (k + 1) ps sp := by
  obtain ⟨f, fd, F, hm⟩ := F
  exact ⟨f, fd, F.ok S len fun cdv A outer s H vs Q E hr h => hbody f cdv A outer s H vs Q E hr h, hm, F.kp, F.bindsN hb⟩
/-- .. of a def with a table of code objects: its code object stands at c -/
theorem cal_ofT {c : Addr} (F : ∃ f fd, FunAt K mg x nm st f fd ∧ fd.code = .ref c) (S : FnScope N ps (defScope st))
    (hb : ∀ (kV doc pm : Value) (an : Option Addr) (cdv ct : Value) (us : List Value), us.length = ps.length → bindArgs (PySem.W.fnOf nm nm (defArgs st) (defBody st) (defScope st) .none kV doc pm an cdv ct) ⟨us, []⟩ = pure (ps.zip us))
    (len : ∀ vs H Q E, sp vs H Q E → vs.length = ps.length)
    (hbody : ∀ (f : Addr) (cdv : Value) (A : Around) (outer : List Env) (s : Shared) (H : Hp) (vs : List V) (Q : VK) (E : XK), cdv = .ref c → Room k (A.deeper (envOfC nm (defScope st) s.heap.objs.size f cdv)) → sp vs H Q E →
      ∃ t, PSs (cxOf CX0 P w K mg base N nm (defScope st) f cdv A outer s H E).nox (defBody st) t ∧ t { nx := fun _ H' => Q .non H', rt := Q } (start N vs) H) : Cal P w K mg base CX0 x (k + 1) ps sp := by
  obtain ⟨f, fd, ⟨F, hm⟩, hc⟩ := F
  refine ⟨f, fd, ?_, hm, F.kp, F.bindsN hb⟩
  obtain ⟨oc, od, dV, kV, doc, pm, an, cdv, ct, osl, rfl, lk, hcd, _, _⟩ := F.ex
  exact fn_of lk hcd S len fun A outer s H vs Q E hr hsp => let ⟨t, a, b⟩ := hbody f cdv A outer s H vs Q E hc hr hsp; ⟨t, a.nox, b⟩
end

/-! ### what stays -/
/-- the pool: small ints -/
def PoolAt (H : Hp) (q : Addr) : Prop := ∃ ns : List Int, H q = some (.lst (ns.map V.int)) ∧ (∀ z ∈ ns, 0 ≤ z ∧ z < 2520) ∧ ns.length ≤ 1000
/-- all but what stands at M and the tables at T stays -/
structure Ext (T M : List Addr) (H H' : Hp) : Prop where
  keep : ∀ b o, b ∉ M → H b = some o → (∀ ps, o ≠ .tbl ps) → H' b = some o
  tup : ∀ b xs, H b = some (.tup xs) → H' b = some (.tup xs)
  dom : ∀ b, H' b = none → H b = none
  tab : (∀ P ∈ T, TabG H P) → ∀ P ∈ T, TabG H' P
  pool : ∀ q ∈ M, PoolAt H q → PoolAt H' q
def Tabs (T : List Addr) (H : Hp) : Prop := ∀ P ∈ T, TabG H P
section
variable {T M : List Addr} {H H1 H2 H' : Hp} {p : Addr} {o : HO}
theorem Ext.refl (H : Hp) : Ext T M H H := ⟨fun _ _ _ h _ => h, fun _ _ h => h, fun _ h => h, fun h => h, fun _ _ h => h⟩
theorem Ext.trans (a : Ext T M H H1) (b : Ext T M H1 H2) : Ext T M H H2 :=
  ⟨fun c o hc h n => b.keep c o hc (a.keep c o hc h n) n, fun c xs h => b.tup c xs (a.tup c xs h), fun c h => a.dom c (b.dom c h), fun h => b.tab (a.tab h), fun q hq h => b.pool q hq (a.pool q hq h)⟩
theorem Ext.up (a : Ext T [] H H') : Ext T M H H' :=
  ⟨fun c o _ h n => a.keep c o (by simp) h n, a.tup, a.dom, a.tab, fun q _ ⟨ns, h, r⟩ => ⟨ns, a.keep q _ (by simp) h (fun ps z => by cases z), r⟩⟩
theorem Ext.lst {xs : List V} (a : Ext T [] H H') (h : H p = some (.lst xs)) : H' p = some (.lst xs) := a.keep p _ (by simp) h (fun ps z => by cases z)
theorem Ext.ins {C dx : Addr} {fs : List (Str × V)} (a : Ext T M H H') (hm : p ∉ M) (h : H p = some (.ins C dx fs)) : H' p = some (.ins C dx fs) := a.keep p _ hm h (fun ps z => by cases z)
theorem Ext.tabs (a : Ext T M H H') (h : Tabs T H) : Tabs T H' := a.tab h
/-- a new object -/
theorem Ext.new (h : H p = none) : Ext T M H (upd H p o) := by
  refine ⟨fun c u _ e _ => ?_, fun c xs e => ?_, fun c e => ?_, fun e P hP => ?_, fun q _ ⟨ns, e, r⟩ => ⟨ns, ?_, r⟩⟩
  · rw [upd_ne (ne_of_none e h)]; exact e
  · rw [upd_ne (ne_of_none e h)]; exact e
  · by_cases z : c = p
    · rw [z]; exact h
    · rw [upd_ne z] at e; exact e
  · obtain ⟨ps, e1, e2⟩ := e P hP
    exact ⟨ps, by rw [upd_ne (ne_of_none e1 h)]; exact e1, e2⟩
  · rw [upd_ne (ne_of_none e h)]; exact e
/-- what H did not know changes -/
theorem Ext.mut (a : Ext T M H H') (h : H p = none) : Ext T M H (upd H' p o) := by
  refine ⟨fun c u hc e n => ?_, fun c xs e => ?_, fun c e => ?_, fun e P hP => ?_, fun q hq e => ?_⟩
  · rw [upd_ne (ne_of_none e h)]; exact a.keep c u hc e n
  · rw [upd_ne (ne_of_none e h)]; exact a.tup c xs e
  · by_cases z : c = p
    · rw [z]; exact h
    · rw [upd_ne z] at e; exact a.dom c e
  · obtain ⟨ps, e1, _⟩ := e P hP
    obtain ⟨ps2, e3, e4⟩ := a.tab e P hP
    exact ⟨ps2, by rw [upd_ne (ne_of_none e1 h)]; exact e3, e4⟩
  · obtain ⟨ns, e1, r1⟩ := e
    obtain ⟨ns2, e3, e4⟩ := a.pool q hq ⟨ns, e1, r1⟩
    exact ⟨ns2, by rw [upd_ne (ne_of_none e1 h)]; exact e3, e4⟩
/-- the tables alone -/
theorem Ext.tabbed {P : Addr} (hP : TabG H P) (t : Tabbed P H H') : Ext T M H H' := by
  obtain ⟨ps, eP, _⟩ := hP
  have ne : ∀ c u, H c = some u → (∀ ps, u ≠ .tbl ps) → c ≠ P := fun c u e n z => by
    rw [z, eP] at e
    exact n ps (Option.some.inj e).symm
  refine ⟨fun c u _ e n => ?_, fun c xs e => ?_, fun c e => ?_, fun e Q hQ => ?_, fun q _ ⟨ns, e, r⟩ => ⟨ns, ?_, r⟩⟩
  · rw [t.2 c (ne c u e n)]; exact e
  · rw [t.2 c (ne c _ e (fun ps z => by cases z))]; exact e
  · by_cases z : c = P
    · obtain ⟨⟨ps2, e2, _⟩, _⟩ := t
      rw [z, e2] at e; cases e
    · rw [t.2 c z] at e; exact e
  · by_cases z : Q = P
    · rw [z]; exact t.1
    · obtain ⟨ps2, e2, r2⟩ := e Q hQ
      exact ⟨ps2, by rw [t.2 Q z]; exact e2, r2⟩
  · rw [t.2 q (ne q _ e (fun ps z => by cases z))]; exact e
/-- the pool drawn from -/
theorem Ext.drawn {q : Addr} {ns ms : List Int} (h : H q = some (.lst (ns.map V.int))) (hm : ∀ z ∈ ms, 0 ≤ z ∧ z < 2520) (hl : ms.length ≤ 1000) : Ext T [q] H (upd H q (.lst (ms.map V.int))) := by
  refine ⟨fun c u hc e n => ?_, fun c xs e => ?_, fun c e => ?_, fun e P hP => ?_, fun q' hq e => ?_⟩
  · rw [upd_ne (fun z => hc (by rw [z]; exact List.mem_singleton.mpr rfl))]; exact e
  · rw [upd_ne (fun z => by rw [z, h] at e; cases e)]; exact e
  · by_cases z : c = q
    · rw [z, upd_same] at e; cases e
    · rw [upd_ne z] at e; exact e
  · obtain ⟨ps, e1, e2⟩ := e P hP
    exact ⟨ps, by rw [upd_ne (fun z => by rw [z, h] at e1; cases e1)]; exact e1, e2⟩
  · rw [List.mem_singleton.mp hq]
    exact ⟨ms, upd_same, hm, hl⟩
end
theorem Tabs.of_tabbed {T : List Addr} {P : Addr} {H H' : Hp} (h : Tabs T H) (hP : P ∈ T) (t : Tabbed P H H') : Tabs T H' := (Ext.tabbed (T := T) (M := []) (h P hP) t).tab h

/-! ### what a value is -/
/-- a row: a tuple of ints -/
def Rw (H : Hp) (v : V) (r : List Int) : Prop := ∃ a, v = .ref a ∧ H a = some (.tup (r.map V.int))
/-- a matrix: a tuple of rows -/
def Mx (H : Hp) (v : V) (m : List (List Int)) : Prop := ∃ a vs, v = .ref a ∧ H a = some (.tup vs) ∧ Paired (Rw H) vs m
/-- a listener -/
def Ls (H : Hp) (v : V) (l : List (List Int) × List (List Int)) : Prop := ∃ a k u, v = .ref a ∧ H a = some (.tup [k, u]) ∧ Mx H k l.1 ∧ Mx H u l.2
def Lss (H : Hp) (v : V) (ls : List (List (List Int) × List (List Int))) : Prop := ∃ a vs, v = .ref a ∧ H a = some (.tup vs) ∧ Paired (Ls H) vs ls
/-- the law's audience -/
def Au (H : Hp) (v : V) (p n : Int) (ls : List (List (List Int) × List (List Int))) : Prop := ∃ a l, v = .ref a ∧ H a = some (.tup [.int p, .int n, l]) ∧ Lss H l ls
section
variable {T M : List Addr} {H H' : Hp}
theorem Rw.mono (e : Ext T M H H') {v : V} {r : List Int} (h : Rw H v r) : Rw H' v r := let ⟨a, h1, h2⟩ := h; ⟨a, h1, e.tup _ _ h2⟩
theorem Mx.mono (e : Ext T M H H') {v : V} {m : List (List Int)} (h : Mx H v m) : Mx H' v m := let ⟨a, vs, h1, h2, h3⟩ := h; ⟨a, vs, h1, e.tup _ _ h2, L2.Paired.mapP h3 fun _ _ q => q.mono e⟩
theorem Ls.mono (e : Ext T M H H') {v : V} {l : List (List Int) × List (List Int)} (h : Ls H v l) : Ls H' v l := let ⟨a, k, u, h1, h2, h3, h4⟩ := h; ⟨a, k, u, h1, e.tup _ _ h2, h3.mono e, h4.mono e⟩
theorem Lss.mono (e : Ext T M H H') {v : V} {ls : List (List (List Int) × List (List Int))} (h : Lss H v ls) : Lss H' v ls := let ⟨a, vs, h1, h2, h3⟩ := h; ⟨a, vs, h1, e.tup _ _ h2, L2.Paired.mapP h3 fun _ _ q => q.mono e⟩
theorem Au.mono (e : Ext T M H H') {v : V} {p n : Int} {ls : List (List (List Int) × List (List Int))} (h : Au H v p n ls) : Au H' v p n ls := let ⟨a, l, h1, h2, h3⟩ := h; ⟨a, l, h1, e.tup _ _ h2, h3.mono e⟩
end
theorem paired_get {α β : Type} {F : α → β → Prop} : ∀ {l₁ : List α} {l₂ : List β}, Paired F l₁ l₂ → ∀ {i : Nat} {a : α}, l₁[i]? = some a → ∃ b, l₂[i]? = some b ∧ F a b
  | _, _, .nil, i, a, h => by simp at h
  | _, _, .cons f t, 0, a, h => by
    simp at h
    subst h
    exact ⟨_, rfl, f⟩
  | _, _, .cons f t, i + 1, a, h => by
    obtain ⟨b, h1, h2⟩ := paired_get t (i := i) (by simpa using h)
    exact ⟨b, by simpa using h1, h2⟩
theorem paired_get' {α β : Type} {F : α → β → Prop} {l₁ : List α} {l₂ : List β} (h : Paired F l₁ l₂) {i : Nat} {b : β} (hb : l₂[i]? = some b) : ∃ a, l₁[i]? = some a ∧ F a b := by
  have hl := h.length
  have hi : i < l₁.length := by
    have := (List.getElem?_eq_some_iff.mp hb).1
    omega
  obtain ⟨b', h1, h2⟩ := paired_get h (List.getElem?_eq_getElem hi)
  rw [hb] at h1
  cases h1
  exact ⟨_, List.getElem?_eq_getElem hi, h2⟩
theorem paired_append {α β : Type} {F : α → β → Prop} : ∀ {l₁ m₁ : List α} {l₂ m₂ : List β}, Paired F l₁ l₂ → Paired F m₁ m₂ → Paired F (l₁ ++ m₁) (l₂ ++ m₂)
  | _, _, _, _, .nil, s => s
  | _, _, _, _, .cons r t, s => .cons r (paired_append t s)
theorem sz1000 {n : Nat} (h : n ≤ 100000) : n ≤ sizeLine := Nat.le_trans h (by decide)
theorem lz1000 {n : Nat} (h : n ≤ 100000) : n < sizeLine := Nat.lt_of_le_of_lt h (by decide)
theorem sqt {K : PySem.W.Frag} {H : Hp} {a : Addr} {xs : List V} (h : H a = some (.tup xs)) : SqT K H a xs := .inl (.inl h)
theorem sql {K : PySem.W.Frag} {H : Hp} {a : Addr} {xs : List V} (h : H a = some (.lst xs)) : SqL K H a xs := .inl (.inl h)
end K17
end

section
set_option linter.all false
set_option maxRecDepth 100000
set_option maxHeartbeats 2000000
namespace K17
open PySem PySem.Spec PyProof.Rows L2 G17
open GxR (TabG Tabbed)
/-- the built-ins that the text calls, its constants -/
structure Bl (K : PySem.W.Frag) (mg : Str → Option Value) : Prop where
  nlen : mg "len" = none
  nrange : mg "range" = none
  nzip : mg "zip" = none
  nenumerate : mg "enumerate" = none
  nisinstance : mg "isinstance" = none
  ntuple : mg "tuple" = none
  nlist : mg "list" = none
  nint : mg "int" = none
  nbool : mg "bool" = none
  nstr : mg "str" = none
  nabs : mg "abs" = none
  nmin : mg "min" = none
  nsum : mg "sum" = none
  nsorted : mg "sorted" = none
  nall : mg "all" = none
  most : ∃ t, mg "MOST_COLUMNS" = some (.int 12 t)
  primes : ∃ a, mg "PRIMES" = some (.ref a) ∧ ∀ H, SqT K H a ([2, 3, 5, 7, 11, 13].map V.int)
/-- a value's kind, as isinstance sees it -/
inductive Kd (H : Hp) : V → String → Prop where
  | non : Kd H .non "NoneType"
  | bl (b : Bool) : Kd H (.bl b) "bool"
  | int (i : Int) : Kd H (.int i) "int"
  | str (x : Str) : Kd H (.str x) "str"
  | lst {a : Addr} {xs : List V} (e : H a = some (.lst xs)) : Kd H (.ref a) "list"
  | tup {a : Addr} {xs : List V} (e : H a = some (.tup xs)) : Kd H (.ref a) "tuple"
theorem Kd.ty {K : PySem.W.Frag} {H : Hp} {v : V} {t : String} (h : Kd H v t) : TyX K H v (.type t) := by
  cases h with
  | non => exact .base .non
  | bl b => exact .base (.bl b)
  | int i => exact .base (.int i)
  | str x => exact .base (.str x)
  | lst e => exact .base (.lst e)
  | tup e => exact .base (.tup e)
theorem Kd.mono {T M : List Addr} {H H' : Hp} {v : V} {t : String} (e : Ext T [] H H') (h : Kd H v t) : Kd H' v t := by
  cases h with
  | non => exact .non
  | bl b => exact .bl b
  | int i => exact .int i
  | str x => exact .str x
  | lst q => exact .lst (e.lst q)
  | tup q => exact .tup (e.tup _ _ q)
/-- is v an int, no bool -/
def isI : V → Bool
  | .int _ => true
  | _ => false
/-- is v a letter for p -/
def letB (v : V) (p : Int) : Bool := match v with
  | .int i => decide (0 ≤ i ∧ i < p)
  | _ => false
/-- isinstance(v, int), isinstance(v, bool): the answers -/
theorem kint {K : PySem.W.Frag} {H : Hp} {v : V} {t : String} (h : Kd H v t) : ∃ b c, PySem.W.kitOne K (.type t) (.type "int") = some b ∧ PySem.W.kitOne K (.type t) (.type "bool") = some c ∧ (b && !c) = isI v ∧ (b = false → isI v = false) ∧ (isI v = true → b = true ∧ c = false) := by
  cases h with
  | non => exact ⟨false, false, kit_ty (by decide +kernel), kit_ty (by decide +kernel), rfl, fun _ => rfl, fun h => by cases h⟩
  | bl b => exact ⟨true, true, kit_ty (by decide +kernel), kit_ty (by decide +kernel), rfl, fun _ => rfl, fun h => by cases h⟩
  | int i => exact ⟨true, false, kit_ty (by decide +kernel), kit_ty (by decide +kernel), rfl, (fun h => by cases h), fun _ => ⟨rfl, rfl⟩⟩
  | str x => exact ⟨false, false, kit_ty (by decide +kernel), kit_ty (by decide +kernel), rfl, fun _ => rfl, fun h => by cases h⟩
  | lst e => exact ⟨false, false, kit_ty (by decide +kernel), kit_ty (by decide +kernel), rfl, fun _ => rfl, fun h => by cases h⟩
  | tup e => exact ⟨false, false, kit_ty (by decide +kernel), kit_ty (by decide +kernel), rfl, fun _ => rfl, fun h => by cases h⟩
section
variable {P : Program} {w : World} {K : PySem.W.Frag} {mg : Str → Option Value} {base : Heap}
theorem sc_is_letter : FnScope ["value", "p"] ["value", "p"] (defScope (topS 21)) := ⟨rfl, rfl, rfl, by decide +kernel, rfl, by decide +kernel, by decide +kernel⟩
def sp_is_letter : Sp := fun vs H Q _ => ∃ v p t, vs = [v, .int p] ∧ Kd H v t ∧ Q (.bl (letB v p)) H
theorem c_is_letter (F : ∃ f fd, FunAt K mg "is_letter" "is_letter" (topS 21) f fd) (T : Bl K mg) : Cal P w K mg base CX0 "is_letter" 1 ["value", "p"] sp_is_letter := by
  have SC := sc_is_letter
  refine cal_of F sc_is_letter (fun _ _ _ _ _ _ us hl => match us, hl with | [_, _], _ => rfl) (fun vs H Q E h => by obtain ⟨v, p, t, rfl, _⟩ := h; rfl) fun f cdv A outer s H vs Q E hr h => ?_
  obtain ⟨v, p, t, rfl, kd, q⟩ := h
  refine ⟨_, (pss_one (ps_ret (pe_and (pe_callB call_isi (by rfl) T.nisinstance (by decide +kernel) (pa_cons (pv 0) (pa_cons (pe_bltn (v := .ty "int") (u := .type "int") (by rfl) T.nint (by decide +kernel) rfl) pa_nil))) (pe_and (pe_not (pe_callB call_isi (by rfl) T.nisinstance (by decide +kernel) (pa_cons (pv 0) (pa_cons (pe_bltn (v := .ty "bool") (u := .type "bool") (by rfl) T.nbool (by decide +kernel) rfl) pa_nil)))) (pe_one (pe_chain op_le op_lt pe_int (pv 0) (pv 1))))))), ?_⟩
  obtain ⟨b, c, h1, h2, h3, h4, h5⟩ := kint (K := K) kd
  refine ⟨_, rfl, _, _, _, _, b, rfl, .ty _, kd.ty, h1, b, rfl, ite2 (fun e => ?_) (fun e => ?_)⟩
  · subst e
    refine ⟨_, rfl, _, _, _, _, c, rfl, .ty _, kd.ty, h2, c, rfl, !c, rfl, ite2 (fun e => ?_) (fun e => ?_)⟩
    · have hv : isI v = true := by rw [← h3, Bool.true_and]; exact e
      cases v with
      | int i =>
        refine ⟨_, rfl, _, _, rfl, rfl, _, rfl, ite2 (fun e1 => ?_) (fun e1 => ?_)⟩
        · refine ⟨_, rfl, _, _, rfl, rfl, ?_⟩
          have e2 : letB (.int i) p = decide (i < p) := by
            have := of_decide_eq_true e1
            simp [letB, this]
          rw [e2] at q
          exact q
        · have e2 : letB (.int i) p = false := by
            have : ¬ (0 ≤ i) := fun z => e1 (decide_eq_true z)
            simp [letB, this]
          rw [e2] at q
          exact q
      | _ => cases hv
    · have hv : isI v = false := by rw [← h3, Bool.true_and]; exact Bool.eq_false_iff.mpr e
      have e2 : letB v p = false := by
        cases v <;> first | rfl | cases hv
      rw [e2] at q
      exact q
  · have hv : isI v = false := h4 (Bool.eq_false_iff.mpr e)
    have e2 : letB v p = false := by
      cases v <;> first | rfl | cases hv
    rw [e2] at q
    exact q
end
end K17
end

section
set_option linter.all false
/-! the plain law: elimination over a prime field, spans, ranks -/
namespace M17
abbrev Row := List Int
def g (r : Row) (j : Nat) : Int := r.getD j 0
def isP (p : Int) : Prop := p = 2 ∨ p = 3 ∨ p = 5
def inv (p a : Int) : Int := if p = 2 then 1 else if p = 3 then a else (a * a * a) % 5
theorem inv_ok {p a : Int} (hp : isP p) (h1 : 1 ≤ a) (h2 : a < p) : 1 ≤ inv p a ∧ inv p a < p ∧ (a * inv p a) % p = 1 := by
  rcases hp with rfl | rfl | rfl
  · have : a = 1 := by omega
    subst this; decide
  · have : a = 1 ∨ a = 2 := by omega
    rcases this with rfl | rfl <;> decide
  · have : a = 1 ∨ a = 2 ∨ a = 3 ∨ a = 4 := by omega
    rcases this with rfl | rfl | rfl | rfl <;> decide
theorem inv_is {p a b : Int} (hp : isP p) (h1 : 1 ≤ a) (h2 : a < p) (h3 : 1 ≤ b) (h4 : b < p) (h : (a * b) % p = 1) : b = inv p a := by
  rcases hp with rfl | rfl | rfl
  · have : b = 1 := by omega
    subst this; rfl
  · have ha : a = 1 ∨ a = 2 := by omega
    have hb : b = 1 ∨ b = 2 := by omega
    rcases ha with rfl | rfl <;> rcases hb with rfl | rfl <;> revert h <;> decide
  · have ha : a = 1 ∨ a = 2 ∨ a = 3 ∨ a = 4 := by omega
    have hb : b = 1 ∨ b = 2 ∨ b = 3 ∨ b = 4 := by omega
    rcases ha with rfl | rfl | rfl | rfl <;> rcases hb with rfl | rfl | rfl | rfl <;> revert h <;> decide
theorem isP.two {p : Int} (h : isP p) : 2 ≤ p := by rcases h with rfl | rfl | rfl <;> decide
theorem isP.five {p : Int} (h : isP p) : p ≤ 5 := by rcases h with rfl | rfl | rfl <;> decide
/-- a row of n letters -/
def OkR (p : Int) (n : Nat) (r : Row) : Prop := r.length = n ∧ ∀ x ∈ r, 0 ≤ x ∧ x < p
def OkM (p : Int) (n : Nat) (m : List Row) : Prop := ∀ r ∈ m, OkR p n r
def less (p : Int) (r : Row) (t : Int) (o : Row) : Row := List.zipWith (fun a b => (a - t * b) % p) r o
def scale (p b : Int) (r : Row) : Row := r.map fun x => (x * b) % p
def elim (p : Int) (c : Nat) (h : Row) (rs : List Row) : List Row := rs.map fun r => less p r (g r c) h
/-- one column: what is left, what is found -/
def step (p : Int) (s : List Row × List Row) (c : Nat) : List Row × List Row :=
  match s.1.findIdx? (fun r => g r c != 0) with
  | none => s
  | some k =>
    let h := scale p (inv p (g (s.1.getD k []) c)) (s.1.getD k [])
    (elim p c h (s.1.eraseIdx k), elim p c h s.2 ++ [h])
def redS (p : Int) (n : Nat) (rows : List Row) : List Row × List Row := (List.range n).foldl (step p) (rows, [])
def red (p : Int) (n : Nat) (rows : List Row) : List Row := (redS p n rows).2

/-! ### rows -/
theorem g_of {r : Row} {j : Nat} {x : Int} (h : r[j]? = some x) : g r j = x := by
  unfold g; rw [List.getD_eq_getElem?_getD, h]; rfl
theorem g_out {r : Row} {j : Nat} (h : r.length ≤ j) : g r j = 0 := by
  unfold g; rw [List.getD_eq_getElem?_getD, List.getElem?_eq_none h]; rfl
theorem g_ok {p : Int} {n : Nat} {r : Row} (hp : 0 < p) (h : OkR p n r) (j : Nat) : 0 ≤ g r j ∧ g r j < p := by
  by_cases hj : j < r.length
  · rw [g_of (List.getElem?_eq_getElem hj)]
    exact h.2 _ (List.getElem_mem hj)
  · rw [g_out (by omega)]; omega
theorem g_less {p : Int} {r o : Row} {t : Int} {n j : Nat} (h1 : r.length = n) (h2 : o.length = n) (hj : j < n) : g (less p r t o) j = (g r j - t * g o j) % p := by
  unfold less
  have a : j < r.length := by omega
  have b : j < o.length := by omega
  refine g_of ?_
  rw [List.getElem?_zipWith, List.getElem?_eq_getElem a, List.getElem?_eq_getElem b, g_of (List.getElem?_eq_getElem a), g_of (List.getElem?_eq_getElem b)]
theorem g_scale {p b : Int} {r : Row} {j : Nat} (hj : j < r.length) : g (scale p b r) j = (g r j * b) % p := by
  unfold scale
  refine g_of ?_
  rw [List.getElem?_map, List.getElem?_eq_getElem hj, g_of (List.getElem?_eq_getElem hj)]
  rfl
theorem ok_less {p : Int} {n : Nat} {r o : Row} {t : Int} (hp : 0 < p) (h1 : OkR p n r) (h2 : OkR p n o) : OkR p n (less p r t o) := by
  refine ⟨?_, fun x hx => ?_⟩
  · unfold less; rw [List.length_zipWith, h1.1, h2.1]; exact Nat.min_self n
  · unfold less at hx
    obtain ⟨i, hi, e⟩ := List.getElem_of_mem hx
    rw [List.getElem_zipWith] at e
    rw [← e]
    exact ⟨Int.emod_nonneg _ (by omega), Int.emod_lt_of_pos _ hp⟩
theorem ok_scale {p b : Int} {n : Nat} {r : Row} (hp : 0 < p) (h1 : OkR p n r) : OkR p n (scale p b r) := by
  refine ⟨by unfold scale; rw [List.length_map]; exact h1.1, fun x hx => ?_⟩
  unfold scale at hx
  obtain ⟨y, _, e⟩ := List.mem_map.mp hx
  rw [← e]
  exact ⟨Int.emod_nonneg _ (by omega), Int.emod_lt_of_pos _ hp⟩
theorem ok_elim {p : Int} {n c : Nat} {h : Row} {rs : List Row} (hp : 0 < p) (h1 : OkM p n rs) (h2 : OkR p n h) : OkM p n (elim p c h rs) := fun r hr => by
  obtain ⟨r0, h0, e⟩ := List.mem_map.mp hr
  rw [← e]
  exact ok_less hp (h1 r0 h0) h2
/-- a row is known by its letters -/
theorem row_ext {p : Int} {n : Nat} {r : Row} (h : r.length = n) : r = (List.range n).map (g r) := by
  refine List.ext_getElem? fun i => ?_
  rw [List.getElem?_map]
  by_cases hi : i < n
  · rw [List.getElem?_range hi, List.getElem?_eq_getElem (by omega)]
    show _ = some (g r i)
    rw [g_of (List.getElem?_eq_getElem (show i < r.length by omega))]
  · rw [List.getElem?_eq_none (by omega), List.getElem?_eq_none (by simp; omega)]
    rfl

/-! ### congruence -/
theorem dvd_mod (p a : Int) : p ∣ a % p - a := by
  refine ⟨-(a / p), ?_⟩
  have := Int.emod_add_mul_ediv a p
  grind
theorem mod_eq {p a b : Int} (h : p ∣ a - b) : a % p = b % p := by
  obtain ⟨k, hk⟩ := h
  have : a = b + p * k := by omega
  rw [this, Int.add_mul_emod_self_left]
theorem small {p a : Int} (h : p ∣ a) (h0 : 0 ≤ a) (h1 : a < p) : a = 0 := by
  have e1 := Int.emod_eq_of_lt h0 h1
  have e2 := Int.emod_eq_zero_of_dvd h
  omega

/-! ### spans -/
/-- f is a sum of the rows times numbers, at the places below n, modulo p -/
inductive Sp (p : Int) (n : Nat) (R : List Row) : (Nat → Int) → Prop
  | zero : Sp p n R fun _ => 0
  | add {f : Nat → Int} {r : Row} (a : Int) : Sp p n R f → r ∈ R → Sp p n R fun j => f j + a * g r j
  | congr {f f' : Nat → Int} : Sp p n R f → (∀ j, j < n → p ∣ f j - f' j) → Sp p n R f'
section
variable {p : Int} {n : Nat} {R R' : List Row} {f f' : Nat → Int}
theorem Sp.mem {r : Row} (h : r ∈ R) : Sp p n R (g r) := (Sp.add 1 .zero h).congr fun j _ => ⟨0, by grind⟩
theorem Sp.plus (h : Sp p n R f) (h' : Sp p n R f') (a : Int) : Sp p n R fun j => f j + a * f' j := by
  induction h' with
  | zero => exact h.congr fun j _ => ⟨0, by grind⟩
  | @add f1 r b _ hr ih => exact (Sp.add (a * b) ih hr).congr fun j _ => ⟨0, by grind⟩
  | @congr f1 f2 _ hc ih =>
    refine ih.congr fun j hj => ?_
    obtain ⟨k, hk⟩ := hc j hj
    exact ⟨a * k, by grind⟩
theorem Sp.times (h : Sp p n R f) (a : Int) : Sp p n R fun j => a * f j := (Sp.plus .zero h a).congr fun j _ => ⟨0, by grind⟩
theorem Sp.sub (hs : ∀ r ∈ R, Sp p n R' (g r)) (h : Sp p n R f) : Sp p n R' f := by
  induction h with
  | zero => exact .zero
  | add a _ hr ih => exact ih.plus (hs _ hr) a
  | congr _ hc ih => exact ih.congr hc
theorem Sp.mono (hs : ∀ r ∈ R, r ∈ R') (h : Sp p n R f) : Sp p n R' f := h.sub fun r hr => .mem (hs r hr)
/-- a linear form that vanishes on the rows vanishes on the span -/
theorem Sp.form (Φ : (Nat → Int) → Int) (h0 : Φ (fun _ => 0) = 0) (ha : ∀ (f : Nat → Int) (a : Int) (r : Row), Φ (fun j => f j + a * g r j) = Φ f + a * Φ (g r)) (hc : ∀ f f' : Nat → Int, (∀ j, j < n → p ∣ f j - f' j) → p ∣ Φ f - Φ f')
    (hr : ∀ r ∈ R, p ∣ Φ (g r)) (h : Sp p n R f) : p ∣ Φ f := by
  induction h with
  | zero => rw [h0]; exact ⟨0, by omega⟩
  | @add f1 r a _ hm ih =>
    rw [ha]
    exact Int.dvd_add ih (Int.dvd_trans (hr r hm) (Int.dvd_mul_left a _))
  | @congr f1 f2 _ hq ih =>
    have h1 := hc f1 f2 hq
    have : Φ f2 = Φ f1 - (Φ f1 - Φ f2) := by omega
    rw [this]
    exact Int.dvd_sub ih h1
end
/-- sums over lists -/
def sumF (l : List Nat) (f : Nat → Int) : Int := (l.map f).sum
theorem sumF_nil (f : Nat → Int) : sumF [] f = 0 := rfl
theorem sumF_cons (a : Nat) (l : List Nat) (f : Nat → Int) : sumF (a :: l) f = f a + sumF l f := by simp [sumF]
theorem sumF_add (l : List Nat) (f f' : Nat → Int) : sumF l (fun j => f j + f' j) = sumF l f + sumF l f' := by
  induction l with
  | nil => rfl
  | cons a l ih => rw [sumF_cons, sumF_cons, sumF_cons, ih]; omega
theorem sumF_mul (l : List Nat) (a : Int) (f : Nat → Int) : sumF l (fun j => a * f j) = a * sumF l f := by
  induction l with
  | nil => show (0 : Int) = a * 0; omega
  | cons b l ih => rw [sumF_cons, sumF_cons, ih, Int.mul_add]
theorem sumF_zero {l : List Nat} {f : Nat → Int} (h : ∀ j ∈ l, f j = 0) : sumF l f = 0 := by
  induction l with
  | nil => rfl
  | cons a l ih => rw [sumF_cons, h a (by simp), ih fun j hj => h j (List.mem_cons_of_mem _ hj)]; rfl
theorem sumF_dvd {p : Int} {l : List Nat} {f f' : Nat → Int} (h : ∀ j ∈ l, p ∣ f j - f' j) : p ∣ sumF l f - sumF l f' := by
  induction l with
  | nil => exact ⟨0, by simp [sumF]⟩
  | cons a l ih =>
    rw [sumF_cons, sumF_cons]
    have h1 := h a (by simp)
    have h2 := ih fun j hj => h j (List.mem_cons_of_mem _ hj)
    have := Int.dvd_add h1 h2
    have e : f a + sumF l f - (f' a + sumF l f') = f a - f' a + (sumF l f - sumF l f') := by omega
    rw [e]; exact this
theorem sumF_congr {l : List Nat} {f f' : Nat → Int} (h : ∀ j ∈ l, f j = f' j) : sumF l f = sumF l f' := by
  unfold sumF
  rw [List.map_congr_left h]
/-- just one term -/
theorem sumF_one {l : List Nat} {f : Nat → Int} {k : Nat} (hn : l.Nodup) (hk : k ∈ l) (h : ∀ j ∈ l, j ≠ k → f j = 0) : sumF l f = f k := by
  induction l with
  | nil => cases hk
  | cons a l ih =>
    rw [sumF_cons]
    obtain ⟨na, nl⟩ := List.nodup_cons.mp hn
    by_cases e : a = k
    · subst e
      rw [sumF_zero fun j hj => h j (List.mem_cons_of_mem _ hj) fun z => na (by rw [← z]; exact hj)]
      omega
    · have hk' : k ∈ l := by
        rcases List.mem_cons.mp hk with z | z
        · exact absurd z.symm e
        · exact z
      rw [h a (by simp) e, ih nl hk' fun j hj => h j (List.mem_cons_of_mem _ hj)]
      omega
end M17
end

section
set_option linter.all false
namespace M17
/-- some row of the span begins at c -/
def Lead (p : Int) (n : Nat) (R : List Row) (c : Nat) : Prop := ∃ f, Sp p n R f ∧ (∀ j, j < c → p ∣ f j) ∧ ¬ p ∣ f c
structure PInv (p : Int) (n : Nat) (R : List Row) (c : Nat) (P : List Nat) (s : List Row × List Row) : Prop where
  okl : OkM p n s.1
  okf : OkM p n s.2
  zl : ∀ r ∈ s.1, ∀ j, j < c → g r j = 0
  len : P.length = s.2.length
  lt : ∀ k ∈ P, k < c
  piv : ∀ (i k : Nat) (r : Row), P[i]? = some k → s.2[i]? = some r → g r k = 1 ∧ ∀ j, j < k → g r j = 0
  oth : ∀ (i i' k : Nat) (r : Row), P[i]? = some k → s.2[i']? = some r → i ≠ i' → g r k = 0
  nd : P.Nodup
  sp : ∀ f, Sp p n R f ↔ Sp p n (s.1 ++ s.2) f
  ld : ∀ k, k < c → (k ∈ P ↔ Lead p n R k)
theorem PInv.start {p : Int} {n : Nat} {R : List Row} (h : OkM p n R) : PInv p n R 0 [] (R, []) where
  okl := h
  okf := fun r hr => by cases hr
  zl := fun _ _ j hj => absurd hj (Nat.not_lt_zero _)
  len := rfl
  lt := fun k hk => by cases hk
  piv := fun i k r h1 => by simp at h1
  oth := fun i i' k r h1 => by simp at h1
  nd := .nil
  sp := fun f => by rw [List.append_nil]
  ld := fun k hk => absurd hk (Nat.not_lt_zero _)
/-- f less what the pivots take of it -/
def rest (P : List Nat) (A : List Row) (f : Nat → Int) (c : Nat) : Int := f c - sumF (List.range P.length) fun i => f (P.getD i 0) * g (A.getD i []) c
theorem at_getD {P : List Nat} {i : Nat} (h : i < P.length) : P[i]? = some (P.getD i 0) := by
  rw [List.getD_eq_getElem?_getD, List.getElem?_eq_getElem h]; rfl
theorem at_getR {A : List Row} {i : Nat} (h : i < A.length) : A[i]? = some (A.getD i []) := by
  rw [List.getD_eq_getElem?_getD, List.getElem?_eq_getElem h]; rfl
theorem rest_form {p : Int} {n c : Nat} {P : List Nat} {A R : List Row} {f : Nat → Int} (hc : c < n) (hP : ∀ k ∈ P, k < n) (hr : ∀ r ∈ R, p ∣ rest P A (g r) c) (h : Sp p n R f) : p ∣ rest P A f c := by
  refine Sp.form (fun f => rest P A f c) ?_ (fun f a r => ?_) (fun f f' hq => ?_) hr h
  · show (0 : Int) - sumF _ _ = 0
    rw [sumF_zero fun i _ => Int.zero_mul _]; rfl
  · show f c + a * g r c - sumF (List.range P.length) (fun i => (f (P.getD i 0) + a * g r (P.getD i 0)) * g (A.getD i []) c) = f c - sumF (List.range P.length) (fun i => f (P.getD i 0) * g (A.getD i []) c) + a * (g r c - sumF (List.range P.length) fun i => g r (P.getD i 0) * g (A.getD i []) c)
    rw [sumF_congr (f' := fun i => f (P.getD i 0) * g (A.getD i []) c + a * (g r (P.getD i 0) * g (A.getD i []) c)) fun i _ => by grind, sumF_add, sumF_mul]
    grind
  · show p ∣ f c - sumF _ _ - (f' c - sumF _ _)
    have h1 := hq c hc
    have h2 : p ∣ sumF (List.range P.length) (fun i => f (P.getD i 0) * g (A.getD i []) c) - sumF (List.range P.length) (fun i => f' (P.getD i 0) * g (A.getD i []) c) := sumF_dvd fun i hi => by
      have hi' := List.mem_range.mp hi
      obtain ⟨k, hk⟩ := hq (P.getD i 0) (hP _ (List.mem_of_getElem? (at_getD hi')))
      exact ⟨k * g (A.getD i []) c, by grind⟩
    have := Int.dvd_sub h1 h2
    have e : f c - sumF (List.range P.length) (fun i => f (P.getD i 0) * g (A.getD i []) c) - (f' c - sumF (List.range P.length) fun i => f' (P.getD i 0) * g (A.getD i []) c) = f c - f' c - (sumF (List.range P.length) (fun i => f (P.getD i 0) * g (A.getD i []) c) - sumF (List.range P.length) fun i => f' (P.getD i 0) * g (A.getD i []) c) := by omega
    rw [e]; exact this
section
variable {p : Int} {n c : Nat} {R : List Row} {P : List Nat} {s : List Row × List Row}
/-- the found rows have no rest -/
theorem PInv.rest0 (I : PInv p n R c P s) (j : Nat) : ∀ r ∈ s.2, rest P s.2 (g r) j = 0 := fun r hr => by
  obtain ⟨k, hk, e⟩ := List.getElem_of_mem hr
  have hk' : k < P.length := by rw [I.len]; exact hk
  have ek : s.2[k]? = some r := by rw [List.getElem?_eq_getElem hk, e]
  unfold rest
  rw [sumF_one (k := k) List.nodup_range (List.mem_range.mpr hk') fun i hi hne => ?_]
  · rw [(I.piv k _ r (at_getD hk') ek).1]
    have : s.2.getD k [] = r := by rw [List.getD_eq_getElem?_getD, ek]; rfl
    rw [this]; omega
  · rw [I.oth i k _ r (at_getD (List.mem_range.mp hi)) ek hne]; omega
theorem PInv.nolead (I : PInv p n R c P s) (hc : c < n) (hz : ∀ r ∈ s.1, g r c = 0) : ¬ Lead p n R c := fun ⟨f, hf, h0, h1⟩ => by
  refine h1 ?_
  have key : p ∣ rest P s.2 f c := rest_form hc (fun k hk => Nat.lt_trans (I.lt k hk) hc) (fun r hr => by
    rcases List.mem_append.mp hr with hr | hr
    · refine ⟨0, ?_⟩
      unfold rest
      rw [hz r hr, sumF_zero fun i hi => ?_]
      · omega
      · rw [I.zl r hr _ (I.lt _ (List.mem_of_getElem? (at_getD (List.mem_range.mp hi))))]; omega
    · rw [I.rest0 c r hr]; exact ⟨0, by omega⟩) ((I.sp f).mp hf)
  have h2 : p ∣ sumF (List.range P.length) (fun i => f (P.getD i 0) * g (s.2.getD i []) c) := by
    have := sumF_dvd (p := p) (l := List.range P.length) (f := fun i => f (P.getD i 0) * g (s.2.getD i []) c) (f' := fun _ => 0) fun i hi => by
      obtain ⟨k, hk⟩ := h0 _ (I.lt _ (List.mem_of_getElem? (at_getD (List.mem_range.mp hi))))
      exact ⟨k * g (s.2.getD i []) c, by grind⟩
    rw [sumF_zero (f := fun _ => (0 : Int)) fun _ _ => rfl] at this
    simpa using this
  have e : f c = rest P s.2 f c + sumF (List.range P.length) (fun i => f (P.getD i 0) * g (s.2.getD i []) c) := by unfold rest; omega
  rw [e]
  exact Int.dvd_add key h2
theorem mem_erase {α : Type} {l : List α} {k : Nat} (hk : k < l.length) {r : α} (h : r ∈ l) : r = l[k] ∨ r ∈ l.eraseIdx k := by
  obtain ⟨i, hi, e⟩ := List.getElem_of_mem h
  by_cases z : i = k
  · subst z; exact .inl e.symm
  · exact .inr (List.mem_eraseIdx_iff_getElem.mpr ⟨i, hi, z, e⟩)
theorem PInv.step (hp : isP p) (I : PInv p n R c P s) (hc : c < n) : ∃ P', PInv p n R (c + 1) P' (step p s c) := by
  have p0 : 0 < p := by have := hp.two; omega
  unfold M17.step
  cases hf : s.1.findIdx? (fun r => g r c != 0) with
  | none =>
    have hz : ∀ r ∈ s.1, g r c = 0 := fun r hr => by
      have := List.findIdx?_eq_none_iff.mp hf r hr
      simpa using this
    have nl := I.nolead hc hz
    refine ⟨P, I.okl, I.okf, fun r hr j hj => ?_, I.len, fun k hk => Nat.lt_succ_of_lt (I.lt k hk), I.piv, I.oth, I.nd, I.sp, fun k hk => ?_⟩
    · by_cases e : j = c
      · rw [e]; exact hz r hr
      · exact I.zl r hr j (by omega)
    · by_cases e : k = c
      · subst e
        exact ⟨fun h => absurd (I.lt k h) (Nat.lt_irrefl _), fun h => absurd h nl⟩
      · exact I.ld k (by omega)
  | some k =>
    obtain ⟨hk, hk1, _⟩ := List.findIdx?_eq_some_iff_getElem.mp hf
    have eh : s.1.getD k [] = s.1[k] := by rw [List.getD_eq_getElem?_getD, List.getElem?_eq_getElem hk]; rfl
    generalize hh0 : s.1[k] = h0 at *
    have m0 : h0 ∈ s.1 := by rw [← hh0]; exact List.getElem_mem hk
    have ok0 := I.okl h0 m0
    have hne : g h0 c ≠ 0 := by simpa using hk1
    have b0 := g_ok p0 ok0 c
    obtain ⟨i1, i2, i3⟩ := inv_ok hp (a := g h0 c) (by omega) b0.2
    show ∃ P', PInv p n R (c + 1) P' (elim p c (scale p (inv p (g (s.1.getD k []) c)) (s.1.getD k [])) (s.1.eraseIdx k), elim p c (scale p (inv p (g (s.1.getD k []) c)) (s.1.getD k [])) s.2 ++ [scale p (inv p (g (s.1.getD k []) c)) (s.1.getD k [])])
    rw [eh]
    generalize hb : inv p (g h0 c) = b at *
    have okh : OkR p n (scale p b h0) := ok_scale p0 ok0
    have gh : ∀ j, j < n → g (scale p b h0) j = (g h0 j * b) % p := fun j hj => g_scale (by rw [ok0.1]; exact hj)
    generalize hh : scale p b h0 = h at *
    have hc1 : g h c = 1 := by rw [gh c hc]; exact i3
    have hz : ∀ j, j < c → g h j = 0 := fun j hj => by rw [gh j (by omega), I.zl h0 m0 j hj, Int.zero_mul]; rfl
    have gl : ∀ r, OkR p n r → ∀ t j, j < n → g (less p r t h) j = (g r j - t * g h j) % p := fun r hr t j hj => g_less hr.1 okh.1 hj
    have keepj : ∀ r, OkR p n r → ∀ t j, j < c → g (less p r t h) j = g r j := fun r hr t j hj => by
      rw [gl r hr t j (by omega), hz j hj, Int.mul_zero, Int.sub_zero]
      have := g_ok p0 hr j
      exact Int.emod_eq_of_lt this.1 this.2
    have atc : ∀ r, OkR p n r → g (less p r (g r c) h) c = 0 := fun r hr => by
      rw [gl r hr _ c hc, hc1, Int.mul_one, Int.sub_self]; rfl
    have okE : ∀ r ∈ s.1.eraseIdx k, r ∈ s.1 := fun r hr => List.mem_of_mem_eraseIdx hr
    have fget : ∀ {i : Nat} {r : Row}, (elim p c h s.2 ++ [h])[i]? = some r → (i < s.2.length ∧ ∃ r0, s.2[i]? = some r0 ∧ r = less p r0 (g r0 c) h) ∨ (i = s.2.length ∧ r = h) := fun {i r} e => by
      by_cases hi : i < s.2.length
      · refine .inl ⟨hi, s.2[i], List.getElem?_eq_getElem hi, ?_⟩
        rw [List.getElem?_append_left (by unfold elim; rw [List.length_map]; exact hi)] at e
        unfold elim at e
        rw [List.getElem?_map, List.getElem?_eq_getElem hi] at e
        exact (Option.some.inj e).symm
      · refine .inr ?_
        rw [List.getElem?_append_right (by unfold elim; rw [List.length_map]; omega)] at e
        have el : (elim p c h s.2).length = s.2.length := by unfold elim; rw [List.length_map]
        rw [el] at e
        have hi0 : i - s.2.length = 0 := by
          have := (List.getElem?_eq_some_iff.mp e).1
          simp at this; omega
        rw [hi0] at e
        exact ⟨by omega, (Option.some.inj e).symm⟩
    have pget : ∀ {i q : Nat}, (P ++ [c])[i]? = some q → (i < s.2.length ∧ P[i]? = some q) ∨ (i = s.2.length ∧ q = c) := fun {i q} e => by
      by_cases hi : i < s.2.length
      · refine .inl ⟨hi, ?_⟩
        rw [List.getElem?_append_left (by rw [I.len]; exact hi)] at e
        exact e
      · refine .inr ?_
        rw [List.getElem?_append_right (by rw [I.len]; omega), I.len] at e
        have hi0 : i - s.2.length = 0 := by
          have := (List.getElem?_eq_some_iff.mp e).1
          simp at this; omega
        rw [hi0] at e
        exact ⟨by omega, (Option.some.inj e).symm⟩
    have h0sp : ∀ j, j < n → p ∣ b * g h0 j - g h j := fun j hj => by
      rw [gh j hj]
      obtain ⟨q, hq⟩ := dvd_mod p (g h0 j * b)
      exact ⟨-q, by grind⟩
    have lsp : ∀ r, OkR p n r → ∀ t j, j < n → p ∣ g r j + (-t) * g h j - g (less p r t h) j := fun r hr t j hj => by
      rw [gl r hr t j hj]
      obtain ⟨q, hq⟩ := dvd_mod p (g r j - t * g h j)
      exact ⟨-q, by grind⟩
    refine ⟨P ++ [c], ok_elim p0 (fun r hr => I.okl r (okE r hr)) okh, fun r hr => ?_, fun r hr j hj => ?_, ?_, fun q hq => ?_, fun i q r e1 e2 => ?_, fun i i' q r e1 e2 hne => ?_, ?_, fun f => ?_, fun q hq => ?_⟩
    · rcases List.mem_append.mp hr with hr | hr
      · exact ok_elim p0 I.okf okh r hr
      · rw [List.mem_singleton.mp hr]; exact okh
    · obtain ⟨r0, m, rfl⟩ := List.mem_map.mp hr
      have ok := I.okl r0 (okE r0 m)
      by_cases e : j = c
      · rw [e]; exact atc r0 ok
      · rw [keepj r0 ok _ j (by omega)]
        exact I.zl r0 (okE r0 m) j (by omega)
    · show (P ++ [c]).length = (elim p c h s.2 ++ [h]).length
      rw [List.length_append, List.length_append]
      unfold elim
      rw [List.length_map, I.len]; rfl
    · rcases List.mem_append.mp hq with hq | hq
      · exact Nat.lt_succ_of_lt (I.lt q hq)
      · rw [List.mem_singleton.mp hq]; exact Nat.lt_succ_self c
    · rcases pget e1 with ⟨a1, a2⟩ | ⟨a1, a2⟩ <;> rcases fget e2 with ⟨b1, r0, b2, b3⟩ | ⟨b1, b2⟩
      · have ok := I.okf r0 (List.mem_of_getElem? b2)
        have hq := I.lt q (List.mem_of_getElem? a2)
        obtain ⟨c1, c2⟩ := I.piv i q r0 a2 b2
        refine ⟨by rw [b3, keepj r0 ok _ q hq]; exact c1, fun j hj => by rw [b3, keepj r0 ok _ j (by omega)]; exact c2 j hj⟩
      · omega
      · omega
      · subst a2 b2
        exact ⟨hc1, hz⟩
    · rcases pget e1 with ⟨a1, a2⟩ | ⟨a1, a2⟩ <;> rcases fget e2 with ⟨b1, r0, b2, b3⟩ | ⟨b1, b2⟩
      · have ok := I.okf r0 (List.mem_of_getElem? b2)
        rw [b3, keepj r0 ok _ q (I.lt q (List.mem_of_getElem? a2))]
        exact I.oth i i' q r0 a2 b2 hne
      · rw [b2]; exact hz q (I.lt q (List.mem_of_getElem? a2))
      · rw [b3, a2]; exact atc r0 (I.okf r0 (List.mem_of_getElem? b2))
      · omega
    · refine List.nodup_append.mpr ⟨I.nd, by simp, fun a ha b hb => ?_⟩
      rw [List.mem_singleton.mp hb]
      have := I.lt a ha
      omega
    · rw [I.sp f]
      show Sp p n (s.1 ++ s.2) f ↔ Sp p n (elim p c h (s.1.eraseIdx k) ++ (elim p c h s.2 ++ [h])) f
      have mh : h ∈ elim p c h (s.1.eraseIdx k) ++ (elim p c h s.2 ++ [h]) := by simp
      have hin : Sp p n (s.1 ++ s.2) (g h) := ((Sp.mem (List.mem_append_left _ m0)).times b).congr h0sp
      have lin : ∀ r ∈ s.1 ++ s.2, OkR p n r → Sp p n (s.1 ++ s.2) (g (less p r (g r c) h)) := fun r hr ok => ((Sp.mem hr).plus hin (-(g r c))).congr (lsp r ok _)
      have lout : ∀ r, OkR p n r → less p r (g r c) h ∈ elim p c h (s.1.eraseIdx k) ++ (elim p c h s.2 ++ [h]) → Sp p n (elim p c h (s.1.eraseIdx k) ++ (elim p c h s.2 ++ [h])) (g r) := fun r ok hm =>
        ((Sp.mem hm).plus (Sp.mem mh) (g r c)).congr fun j hj => by
          obtain ⟨q, hq⟩ := lsp r ok (g r c) j hj
          exact ⟨-q, by grind⟩
      constructor
      · refine Sp.sub fun r hr => ?_
        rcases List.mem_append.mp hr with hr | hr
        · rcases mem_erase hk hr with e | hr2
          · rw [hh0] at e
            subst e
            refine ((Sp.mem mh).times (g r c)).congr fun j hj => ?_
            obtain ⟨q, hq⟩ := h0sp j hj
            have e3 := Int.emod_add_mul_ediv (g r c * b) p
            rw [i3] at e3
            exact ⟨-(g r c) * q + (g r c * b / p) * g r j, by grind⟩
          · exact lout r (I.okl r hr) (List.mem_append_left _ (List.mem_map.mpr ⟨r, hr2, rfl⟩))
        · exact lout r (I.okf r hr) (List.mem_append_right _ (List.mem_append_left _ (List.mem_map.mpr ⟨r, hr, rfl⟩)))
      · refine Sp.sub fun r hr => ?_
        rcases List.mem_append.mp hr with hr | hr
        · obtain ⟨r0, m, rfl⟩ := List.mem_map.mp hr
          exact lin r0 (List.mem_append_left _ (okE r0 m)) (I.okl r0 (okE r0 m))
        · rcases List.mem_append.mp hr with hr | hr
          · obtain ⟨r0, m, rfl⟩ := List.mem_map.mp hr
            exact lin r0 (List.mem_append_right _ m) (I.okf r0 m)
          · rw [List.mem_singleton.mp hr]; exact hin
    · by_cases e : q = c
      · subst e
        refine ⟨fun _ => ⟨g h0, (I.sp _).mpr (Sp.mem (List.mem_append_left _ m0)), fun j hj => by rw [I.zl h0 m0 j hj]; exact ⟨0, by omega⟩, fun hd => ?_⟩, fun _ => by simp⟩
        have := small hd b0.1 b0.2
        exact hne this
      · rw [List.mem_append]
        have := I.ld q (by omega)
        constructor
        · rintro (h1 | h1)
          · exact this.mp h1
          · exact absurd (List.mem_singleton.mp h1) e
        · exact fun h1 => .inl (this.mpr h1)
theorem redS_inv (hp : isP p) (h : OkM p n R) : ∀ c, c ≤ n → ∃ P, PInv p n R c P ((List.range c).foldl (M17.step p) (R, []))
  | 0, _ => ⟨[], .start h⟩
  | c + 1, hc => by
    obtain ⟨P, I⟩ := redS_inv hp h c (by omega)
    rw [List.range_succ, List.foldl_append]
    exact I.step hp (by omega)
theorem red_inv (hp : isP p) (h : OkM p n R) : ∃ P, PInv p n R n P (redS p n R) := redS_inv hp h n (Nat.le_refl _)
end
end M17
end

section
set_option linter.all false
namespace M17
def dotF (X : Nat → Int) (R : List Row) (j : Nat) : Int := sumF (List.range R.length) fun k => g (R.getD k []) j * X k
theorem len_le : ∀ {l₁ l₂ : List Nat}, l₁.Nodup → (∀ a ∈ l₁, a ∈ l₂) → l₁.length ≤ l₂.length
  | [], _, _, _ => Nat.zero_le _
  | a :: t, l₂, hn, hs => by
    obtain ⟨n1, n2⟩ := List.nodup_cons.mp hn
    have ha := hs a (by simp)
    have h := len_le (l₂ := l₂.erase a) n2 fun b hb => (List.mem_erase_of_ne fun e => n1 (by rw [← e]; exact hb)).mpr (hs b (List.mem_cons_of_mem _ hb))
    rw [List.length_erase_of_mem ha] at h
    have : 0 < l₂.length := List.length_pos_of_mem ha
    simp only [List.length_cons]
    omega
theorem least {Q : Nat → Prop} : ∀ (c : Nat), Q c → ∃ k, k ≤ c ∧ Q k ∧ ∀ j, j < k → ¬ Q j := fun c => by
  induction c using Nat.strongRecOn with
  | ind c ih =>
    intro h
    by_cases z : ∃ j, j < c ∧ Q j
    · obtain ⟨j, h1, h2⟩ := z
      obtain ⟨k, a, b, d⟩ := ih j h1 h2
      exact ⟨k, by omega, b, d⟩
    · exact ⟨c, Nat.le_refl _, h, fun j hj q => z ⟨j, hj, q⟩⟩
section
variable {p : Int} {n : Nat} {R A : List Row} {P : List Nat} {f : Nat → Int}
theorem Sp.sum {m : Nat} {u : Nat → Int} {h : Nat → Nat → Int} : (∀ k, k < m → Sp p n R (h k)) → Sp p n R fun j => sumF (List.range m) fun k => u k * h k j := by
  induction m with
  | zero => exact fun _ => Sp.zero
  | succ m ih =>
    intro hs
    refine ((ih fun k hk => hs k (by omega)).plus (hs m (Nat.lt_succ_self m)) (u m)).congr fun j _ => ⟨0, ?_⟩
    have e : sumF (List.range (m + 1)) (fun k => u k * h k j) = sumF (List.range m) (fun k => u k * h k j) + u m * h m j := by
      unfold sumF
      rw [List.range_succ, List.map_append, List.sum_append]
      simp
    rw [e]; omega
theorem getR_mem {k : Nat} (hk : k < R.length) : R.getD k [] ∈ R := List.mem_of_getElem? (at_getR hk)
theorem sp_dot (X : Nat → Int) : Sp p n R fun j => dotF X R j :=
  (Sp.sum (u := X) (h := fun k j => g (R.getD k []) j) fun k hk => Sp.mem (getR_mem (R := R) hk)).congr fun j _ => ⟨0, by
    unfold dotF
    rw [sumF_congr (f' := fun k => g (R.getD k []) j * X k) fun k _ => Int.mul_comm _ _]
    omega⟩
theorem dot_sp (h : Sp p n R f) : ∃ X : Nat → Int, ∀ j, j < n → p ∣ dotF X R j - f j := by
  induction h with
  | zero => exact ⟨fun _ => 0, fun j _ => ⟨0, by unfold dotF; rw [sumF_zero fun k _ => Int.mul_zero _]; simp⟩⟩
  | @add f1 r a _ hr ih =>
    obtain ⟨X, hX⟩ := ih
    obtain ⟨k, hk, e⟩ := List.getElem_of_mem hr
    refine ⟨fun i => X i + (if i = k then a else 0), fun j hj => ?_⟩
    have e1 : dotF (fun i => X i + (if i = k then a else 0)) R j = dotF X R j + a * g r j := by
      unfold dotF
      rw [sumF_congr (f' := fun i => g (R.getD i []) j * X i + g (R.getD i []) j * (if i = k then a else 0)) fun i _ => Int.mul_add _ _ _, sumF_add]
      rw [sumF_one (f := fun i => g (R.getD i []) j * (if i = k then a else 0)) (k := k) List.nodup_range (List.mem_range.mpr hk) fun i _ hi => by rw [if_neg hi, Int.mul_zero]]
      rw [if_pos rfl]
      have : R.getD k [] = r := by rw [List.getD_eq_getElem?_getD, List.getElem?_eq_getElem hk, e]; rfl
      rw [this, Int.mul_comm a]
    rw [e1]
    have := hX j hj
    have e2 : dotF X R j + a * g r j - (f1 j + a * g r j) = dotF X R j - f1 j := by omega
    rw [e2]; exact this
  | @congr f1 f2 _ hq ih =>
    obtain ⟨X, hX⟩ := ih
    refine ⟨X, fun j hj => ?_⟩
    have := Int.dvd_add (hX j hj) (hq j hj)
    have e2 : dotF X R j - f1 j + (f1 j - f2 j) = dotF X R j - f2 j := by omega
    rw [← e2]; exact this
/-- the found rows alone span the same -/
theorem PInv.fin {s : List Row × List Row} (I : PInv p n R n P s) : Sp p n R f ↔ Sp p n s.2 f := by
  rw [I.sp f]
  refine ⟨Sp.sub fun r hr => ?_, Sp.mono fun r hr => List.mem_append_right _ hr⟩
  rcases List.mem_append.mp hr with hr | hr
  · exact Sp.zero.congr fun j hj => by rw [I.zl r hr j hj]; exact ⟨0, by omega⟩
  · exact Sp.mem hr
/-- the law's test: the rank stays -/
theorem rank_iff (hp : isP p) {row : Row} (h : OkM p n R) (hr : OkR p n row) : (red p n (R ++ [row])).length = (red p n R).length ↔ Sp p n R (g row) := by
  have h' : OkM p n (R ++ [row]) := fun r hm => by
    rcases List.mem_append.mp hm with z | z
    · exact h r z
    · rw [List.mem_singleton.mp z]; exact hr
  obtain ⟨P, I⟩ := red_inv hp h
  obtain ⟨P', I'⟩ := red_inv hp h'
  have l1 : (red p n R).length = P.length := I.len.symm
  have l2 : (red p n (R ++ [row])).length = P'.length := I'.len.symm
  have up : ∀ {f}, Sp p n R f → Sp p n (R ++ [row]) f := fun h => h.mono fun r hm => List.mem_append_left _ hm
  have sub : ∀ k ∈ P, k ∈ P' := fun k hk => by
    have hk1 := I.lt k hk
    obtain ⟨f, a, b, c⟩ := (I.ld k hk1).mp hk
    exact (I'.ld k hk1).mpr ⟨f, up a, b, c⟩
  rw [l1, l2]
  constructor
  · intro e
    refine Classical.byContradiction fun hno => ?_
    have hin : ∀ i, i < P.length → Sp p n R (g ((redS p n R).2.getD i [])) := fun i hi => I.fin.mpr (Sp.mem (getR_mem (by rw [← I.len]; exact hi)))
    have hsum : Sp p n R fun j => sumF (List.range P.length) fun i => g row (P.getD i 0) * g ((redS p n R).2.getD i []) j := Sp.sum hin
    have hex : ∃ c, c < n ∧ ¬ p ∣ rest P (redS p n R).2 (g row) c := Classical.byContradiction fun z => by
      refine hno (hsum.congr fun j hj => ?_)
      have := Classical.not_not.mp fun q => z ⟨j, hj, q⟩
      have e : (sumF (List.range P.length) fun i => g row (P.getD i 0) * g ((redS p n R).2.getD i []) j) - g row j = -(rest P (redS p n R).2 (g row) j) := by unfold rest; omega
      rw [e]
      exact Int.dvd_neg.mpr this
    obtain ⟨c0, hc0⟩ := hex
    obtain ⟨c, _, ⟨hc1, hc2⟩, hc3⟩ := least (Q := fun c => c < n ∧ ¬ p ∣ rest P (redS p n R).2 (g row) c) c0 hc0
    have ld : Lead p n (R ++ [row]) c := by
      refine ⟨fun j => rest P (redS p n R).2 (g row) j, ?_, fun j hj => Classical.not_not.mp fun q => hc3 j hj ⟨by omega, q⟩, hc2⟩
      refine ((Sp.mem (List.mem_append_right R (List.mem_singleton.mpr rfl))).plus (up hsum) (-1)).congr fun j _ => ⟨0, ?_⟩
      unfold rest; omega
    have cP : c ∉ P := fun hm => by
      obtain ⟨i, hi, ei⟩ := List.getElem_of_mem hm
      have e1 : P[i]? = some c := by rw [List.getElem?_eq_getElem hi, ei]
      have e1' : P.getD i 0 = c := by rw [List.getD_eq_getElem?_getD, e1]; rfl
      refine hc2 ?_
      have : rest P (redS p n R).2 (g row) c = 0 := by
        unfold rest
        rw [sumF_one (k := i) List.nodup_range (List.mem_range.mpr hi) fun t ht hne => ?_]
        · rw [e1', (I.piv i c _ e1 (at_getR (by rw [← I.len]; exact hi))).1]; omega
        · rw [I.oth i t c _ e1 (at_getR (by rw [← I.len]; exact List.mem_range.mp ht)) (Ne.symm hne)]; omega
      rw [this]; exact ⟨0, by omega⟩
    have := len_le (l₁ := c :: P) (l₂ := P') (List.nodup_cons.mpr ⟨cP, I.nd⟩) fun a ha => by
      rcases List.mem_cons.mp ha with z | z
      · rw [z]; exact (I'.ld c hc1).mpr ld
      · exact sub a z
    simp only [List.length_cons] at this
    omega
  · intro hs
    have sub' : ∀ k ∈ P', k ∈ P := fun k hk => by
      have hk1 := I'.lt k hk
      obtain ⟨f, a, b, c⟩ := (I'.ld k hk1).mp hk
      refine (I.ld k hk1).mpr ⟨f, a.sub fun r hm => ?_, b, c⟩
      rcases List.mem_append.mp hm with z | z
      · exact Sp.mem z
      · rw [List.mem_singleton.mp z]; exact hs
    have a1 := len_le I.nd sub
    have a2 := len_le I'.nd sub'
    omega
theorem red_ok (hp : isP p) (h : OkM p n R) : OkM p n (red p n R) := let ⟨_, I⟩ := red_inv hp h; I.okf
theorem red_sp (hp : isP p) (h : OkM p n R) : Sp p n (red p n R) f ↔ Sp p n R f := let ⟨_, I⟩ := red_inv hp h; I.fin.symm
/-- the law's test over the reduced rows -/
theorem law_iff (hp : isP p) {row : Row} (h : OkM p n R) (hr : OkR p n row) : (red p n (red p n R ++ [row])).length = (red p n (red p n R)).length ↔ Sp p n R (g row) := (rank_iff hp (red_ok hp h) hr).trans (red_sp hp h)

/-! ### the program: the rows across -/
def across (n : Nat) (R : List Row) (w : Row) : List Row := (List.range n).map fun j => R.map (fun r => g r j) ++ [g w j]
def Fst (r : Row) (k : Nat) : Prop := k + 1 ≤ r.length ∧ (∀ j, j < k → g r j = 0) ∧ (k + 1 < r.length → g r k ≠ 0)
theorem across_g {R : List Row} {w : Row} {j k : Nat} (hk : k < R.length) : g (R.map (fun r => g r j) ++ [g w j]) k = g (R.getD k []) j := by
  refine g_of ?_
  rw [List.getElem?_append_left (by rw [List.length_map]; exact hk), List.getElem?_map, at_getR hk]
  rfl
theorem across_l {R : List Row} {w : Row} {j : Nat} : g (R.map (fun r => g r j) ++ [g w j]) R.length = g w j := by
  refine g_of ?_
  rw [List.getElem?_append_right (by rw [List.length_map]; exact Nat.le_refl _), List.length_map, Nat.sub_self]
  rfl
theorem across_ok (hp : isP p) {w : Row} (h : OkM p n R) (hw : OkR p n w) : OkM p (R.length + 1) (across n R w) := fun r hr => by
  have p0 : 0 < p := by have := hp.two; omega
  obtain ⟨j, _, rfl⟩ := List.mem_map.mp hr
  refine ⟨by rw [List.length_append, List.length_map]; rfl, fun x hx => ?_⟩
  rcases List.mem_append.mp hx with hx | hx
  · obtain ⟨r0, m, rfl⟩ := List.mem_map.mp hx
    exact g_ok p0 (h r0 m) j
  · rw [List.mem_singleton.mp hx]; exact g_ok p0 hw j
/-- the form that tells whether X solves -/
theorem across_form {w : Row} {X : Nat → Int} {f : Nat → Int} (hX : ∀ r ∈ A, p ∣ dotF X R 0 * 0 + (sumF (List.range R.length) (fun k => g r k * X k) - g r R.length)) (h : Sp p (R.length + 1) A f) : p ∣ sumF (List.range R.length) (fun k => f k * X k) - f R.length := by
  refine Sp.form (fun f => sumF (List.range R.length) (fun k => f k * X k) - f R.length) ?_ (fun f a r => ?_) (fun f f' hq => ?_) (fun r hr => by have := hX r hr; simpa using this) h
  · show sumF _ _ - (0 : Int) = 0
    rw [sumF_zero fun i _ => Int.zero_mul _]; rfl
  · show sumF (List.range R.length) (fun k => (f k + a * g r k) * X k) - (f R.length + a * g r R.length) = sumF (List.range R.length) (fun k => f k * X k) - f R.length + a * (sumF (List.range R.length) (fun k => g r k * X k) - g r R.length)
    rw [sumF_congr (f' := fun k => f k * X k + a * (g r k * X k)) fun k _ => by grind, sumF_add, sumF_mul]
    grind
  · show p ∣ sumF _ _ - f R.length - (sumF _ _ - f' R.length)
    have h1 := hq R.length (Nat.lt_succ_self _)
    have h2 : p ∣ sumF (List.range R.length) (fun k => f k * X k) - sumF (List.range R.length) (fun k => f' k * X k) := sumF_dvd fun k hk => by
      obtain ⟨q, hq'⟩ := hq k (by have := List.mem_range.mp hk; omega)
      exact ⟨q * X k, by grind⟩
    have := Int.dvd_sub h2 h1
    have e : sumF (List.range R.length) (fun k => f k * X k) - f R.length - (sumF (List.range R.length) (fun k => f' k * X k) - f' R.length) = sumF (List.range R.length) (fun k => f k * X k) - sumF (List.range R.length) (fun k => f' k * X k) - (f R.length - f' R.length) := by omega
    rw [e]; exact this
theorem fst_is {m c : Nat} {s : List Row × List Row} {i : Nat} {r : Row} {k : Nat} (I : PInv p m R c P s) (hc : c ≤ m) (hr : s.2[i]? = some r) (hk : Fst r k) : k = P.getD i 0 ∧ P.getD i 0 < m := by
  have hi : i < P.length := by rw [I.len]; exact (List.getElem?_eq_some_iff.mp hr).1
  obtain ⟨h1, h2⟩ := I.piv i _ r (at_getD hi) hr
  have hl := (I.okf r (List.mem_of_getElem? hr)).1
  have hlt := I.lt _ (List.mem_of_getElem? (at_getD hi))
  obtain ⟨f1, f2, f3⟩ := hk
  refine ⟨?_, by omega⟩
  rcases Nat.lt_trichotomy k (P.getD i 0) with z | z | z
  · have := f3 (by omega)
    exact absurd (h2 k z) this
  · exact z
  · have := f2 _ z
    rw [h1] at this
    cases this
/-- a head that stands at the last column alone: no solution -/
theorem no_sol (hp : isP p) {w : Row} {s : List Row × List Row} (I : PInv p (R.length + 1) (across n R w) (R.length + 1) P s) (hm : R.length ∈ P) : ¬ Sp p n R (g w) := fun h => by
  obtain ⟨X, hX⟩ := dot_sp h
  obtain ⟨i, hi, ei⟩ := List.getElem_of_mem hm
  have e1 : P[i]? = some R.length := by rw [List.getElem?_eq_getElem hi, ei]
  have hi2 : i < s.2.length := by rw [← I.len]; exact hi
  obtain ⟨p1, p2⟩ := I.piv i _ _ e1 (at_getR hi2)
  have hin : Sp p (R.length + 1) (across n R w) (g (s.2.getD i [])) := I.fin.mpr (Sp.mem (getR_mem hi2))
  have := across_form (X := X) (w := w) (fun r hr => by
    obtain ⟨j, hj, rfl⟩ := List.mem_map.mp hr
    have hj := List.mem_range.mp hj
    rw [Int.mul_zero, Int.zero_add, across_l, sumF_congr (f' := fun k => g (R.getD k []) j * X k) fun k hk => by rw [across_g (List.mem_range.mp hk)]]
    exact hX j hj) hin
  rw [p1, sumF_zero fun k hk => by rw [p2 k (List.mem_range.mp hk), Int.zero_mul]] at this
  obtain ⟨q, hq⟩ := this
  have h2 := hp.two
  have : p * (-q) = 1 := by rw [Int.mul_neg]; omega
  have h3 : p ∣ 1 := ⟨-q, this.symm⟩
  have h4 := Int.le_of_dvd (by decide) h3
  omega
/-- the letters behind i heads -/
def ltr (P : List Nat) (A : List Row) (m i : Nat) : List Int := (List.range i).foldl (fun L k => L.set (P.getD k 0) (g (A.getD k []) m)) (List.replicate m 0)
theorem ltr_succ (P : List Nat) (A : List Row) (m i : Nat) : ltr P A m (i + 1) = (ltr P A m i).set (P.getD i 0) (g (A.getD i []) m) := by
  unfold ltr
  rw [List.range_succ, List.foldl_append]
  rfl
theorem ltr_len (P : List Nat) (A : List Row) (m : Nat) : ∀ i, (ltr P A m i).length = m
  | 0 => by simp [ltr]
  | i + 1 => by rw [ltr_succ, List.length_set]; exact ltr_len P A m i
theorem ltr_at {P : List Nat} {A : List Row} {m : Nat} (hn : P.Nodup) (hm : ∀ k ∈ P, k < m) : ∀ i, i ≤ P.length → (∀ t, t < i → (ltr P A m i).getD (P.getD t 0) 0 = g (A.getD t []) m) ∧ (∀ k, (∀ t, t < i → P.getD t 0 ≠ k) → (ltr P A m i).getD k 0 = 0)
  | 0, _ => ⟨fun t ht => absurd ht (Nat.not_lt_zero _), fun k _ => by
      simp only [ltr, List.range_zero, List.foldl_nil, List.getD_eq_getElem?_getD, List.getElem?_replicate]
      split <;> rfl⟩
  | i + 1, hi => by
    obtain ⟨h1, h2⟩ := ltr_at (A := A) hn hm i (by omega)
    have hP : P.getD i 0 < (ltr P A m i).length := by rw [ltr_len]; exact hm _ (List.mem_of_getElem? (at_getD (by omega)))
    refine ⟨fun t ht => ?_, fun k hk => ?_⟩
    · rw [ltr_succ]
      by_cases e : t = i
      · subst e
        rw [List.getD_eq_getElem?_getD, List.getElem?_set_self hP]; rfl
      · have ne : P.getD i 0 ≠ P.getD t 0 := fun z => by
          have a1 := at_getD (P := P) (i := i) (by omega)
          have a2 := at_getD (P := P) (i := t) (by omega)
          rw [z, ← a2] at a1
          have := (List.getElem?_inj (by omega) hn).mp a1
          omega
        rw [List.getD_eq_getElem?_getD, List.getElem?_set_ne ne, ← List.getD_eq_getElem?_getD]
        exact h1 t (by omega)
    · rw [ltr_succ, List.getD_eq_getElem?_getD, List.getElem?_set_ne (hk i (Nat.lt_succ_self i)), ← List.getD_eq_getElem?_getD]
      exact h2 k fun t ht => hk t (by omega)
/-- no such head: the letters solve -/
theorem sol (hp : isP p) {w : Row} {s : List Row × List Row} (hR : OkM p n R) (hw : OkR p n w) (I : PInv p (R.length + 1) (across n R w) (R.length + 1) P s) (hm : R.length ∉ P) :
    Sp p n R (g w) ∧ (∀ x ∈ ltr P s.2 R.length P.length, 0 ≤ x ∧ x < p) ∧ ∀ j, j < n → dotF (fun k => (ltr P s.2 R.length P.length).getD k 0) R j % p = g w j := by
  have p0 : 0 < p := by have := hp.two; omega
  have hlt : ∀ k ∈ P, k < R.length := fun k hk => by
    have := I.lt k hk
    have : k ≠ R.length := fun z => hm (by rw [← z]; exact hk)
    omega
  obtain ⟨a1, a2⟩ := ltr_at (A := s.2) I.nd hlt P.length (Nat.le_refl _)
  have key : ∀ j, j < n → p ∣ dotF (fun k => (ltr P s.2 R.length P.length).getD k 0) R j - g w j := fun j hj => by
    have hin : Sp p (R.length + 1) s.2 (g (R.map (fun r => g r j) ++ [g w j])) := I.fin.mp (Sp.mem (List.mem_map.mpr ⟨j, List.mem_range.mpr hj, rfl⟩))
    have := across_form (X := fun k => (ltr P s.2 R.length P.length).getD k 0) (w := w) (fun r hr => by
      obtain ⟨i, hi, ei⟩ := List.getElem_of_mem hr
      have hi2 : i < P.length := by rw [I.len]; exact hi
      have er : s.2[i]? = some r := by rw [List.getElem?_eq_getElem hi, ei]
      have er' : s.2.getD i [] = r := by rw [List.getD_eq_getElem?_getD, er]; rfl
      have hPi := List.mem_of_getElem? (at_getD hi2)
      refine ⟨0, ?_⟩
      rw [Int.mul_zero, Int.zero_add, sumF_one (k := P.getD i 0) List.nodup_range (List.mem_range.mpr (hlt _ hPi)) fun k hk hne => ?_]
      · rw [(I.piv i _ r (at_getD hi2) er).1, a1 i hi2, er']; omega
      · by_cases hkP : ∃ t, t < P.length ∧ P.getD t 0 = k
        · obtain ⟨t, ht, et⟩ := hkP
          rw [I.oth t i k r (by rw [← et]; exact at_getD ht) er fun z => hne (by rw [← et, z])]
          exact Int.zero_mul _
        · rw [a2 k fun t ht z => hkP ⟨t, ht, z⟩]; exact Int.mul_zero _) hin
    rw [across_l, sumF_congr (f' := fun k => g (R.getD k []) j * (ltr P s.2 R.length P.length).getD k 0) fun k hk => by rw [across_g (List.mem_range.mp hk)]] at this
    exact this
  refine ⟨(sp_dot (R := R) (fun k => (ltr P s.2 R.length P.length).getD k 0)).congr key, fun x hx => ?_, fun j hj => ?_⟩
  · obtain ⟨k, hk, e⟩ := List.getElem_of_mem hx
    have e1 : (ltr P s.2 R.length P.length).getD k 0 = x := by rw [List.getD_eq_getElem?_getD, List.getElem?_eq_getElem hk, e]; rfl
    rw [← e1]
    by_cases hkP : ∃ t, t < P.length ∧ P.getD t 0 = k
    · obtain ⟨t, ht, et⟩ := hkP
      rw [← et, a1 t ht]
      exact g_ok p0 (I.okf _ (getR_mem (by rw [← I.len]; exact ht))) _
    · rw [a2 k fun t ht z => hkP ⟨t, ht, z⟩]; omega
  · have h1 := mod_eq (key j hj)
    have h2 := g_ok p0 hw j
    rw [h1, Int.emod_eq_of_lt h2.1 h2.2]
end
end M17
end

section
set_option linter.all false
set_option maxRecDepth 100000
set_option maxHeartbeats 2000000
namespace K17
open PySem PySem.Spec PyProof.Rows L2 G17 M17
section
variable {P : Program} {w : World} {K : PySem.W.Frag} {mg : Str → Option Value} {base : Heap}
theorem sc_is_field : FnScope ["p"] ["p"] (defScope (topS 22)) := ⟨rfl, rfl, rfl, by decide +kernel, rfl, by decide +kernel, by decide +kernel⟩
/-- is_field(p), of the law's primes -/
def sp_is_field : Sp := fun vs H Q _ => ∃ p, vs = [.int p] ∧ isP p ∧ Q (.bl true) H
theorem c_is_field (F : ∃ f fd, FunAt K mg "is_field" "is_field" (topS 22) f fd) (T : Bl K mg) : Cal P w K mg base CX0 "is_field" 1 ["p"] sp_is_field := by
  have SC := sc_is_field
  obtain ⟨aP, hP, sP⟩ := T.primes
  refine cal_of F sc_is_field (fun _ _ _ _ _ _ us hl => match us, hl with | [_], _ => rfl) (fun vs H Q E h => by obtain ⟨p, rfl, _⟩ := h; rfl) fun f cdv A outer s H vs Q E hr h => ?_
  obtain ⟨p, rfl, hp, q⟩ := h
  refine ⟨_, (pss_one (ps_ret (pe_and (pe_callB call_isi (by rfl) T.nisinstance (by decide +kernel) (pa_cons (pv 0) (pa_cons (pe_bltn (v := .ty "int") (u := .type "int") (by rfl) T.nint (by decide +kernel) rfl) pa_nil))) (pe_and (pe_not (pe_callB call_isi (by rfl) T.nisinstance (by decide +kernel) (pa_cons (pv 0) (pa_cons (pe_bltn (v := .ty "bool") (u := .type "bool") (by rfl) T.nbool (by decide +kernel) rfl) pa_nil)))) (pe_one (pe_cmpR op_in_seq (pv 0) (pe_glob (v := .ref aP) (by rfl) hP rfl) (by rfl))))))), ?_⟩
  obtain ⟨b, c, h1, h2, h3, h4, h5⟩ := kint (K := K) (Kd.int (H := H) p)
  obtain ⟨rfl, rfl⟩ := h5 rfl
  refine ⟨_, rfl, _, _, _, _, true, rfl, .ty _, (Kd.int p).ty, h1, true, rfl, iteT ?_⟩
  refine ⟨_, rfl, _, _, _, _, false, rfl, .ty _, (Kd.int p).ty, h2, false, rfl, true, rfl, iteT ?_⟩
  refine ⟨_, rfl, aP, _, rfl, .inr (sP H), rfl, by rfl, ?_⟩
  have e : inV (.int p) ([2, 3, 5, 7, 11, 13].map V.int) = true := by
    rcases hp with rfl | rfl | rfl <;> decide
  show Q (.bl (inV (.int p) _)) H
  rw [e]
  exact q
theorem sc_inverse_of : FnScope ["p", "a", "b"] ["p", "a"] (defScope (topS 23)) := ⟨rfl, rfl, rfl, by decide +kernel, rfl, by decide +kernel, by decide +kernel⟩
/-- inverse_of(p, a), a not 0 -/
def sp_inverse_of : Sp := fun vs H Q _ => ∃ p a, vs = [.int p, .int a] ∧ isP p ∧ 1 ≤ a ∧ a < p ∧ Q (.int (inv p a)) H
theorem c_inverse_of (F : ∃ f fd, FunAt K mg "inverse_of" "inverse_of" (topS 23) f fd) (T : Bl K mg) (Cis_letter : Cal P w K mg base CX0 "is_letter" 1 ["value", "p"] sp_is_letter) (Cis_field : Cal P w K mg base CX0 "is_field" 1 ["p"] sp_is_field) :
    Cal P w K mg base CX0 "inverse_of" 2 ["p", "a"] sp_inverse_of := by
  have SC := sc_inverse_of
  refine cal_of F sc_inverse_of (fun _ _ _ _ _ _ us hl => match us, hl with | [_, _], _ => rfl) (fun vs H Q E h => by obtain ⟨p, a, rfl, _⟩ := h; rfl) fun f cdv A outer s H vs Q E hr h => ?_
  obtain ⟨p, a, rfl, hp, h1, h2, q⟩ := h
  refine ⟨_, (pss_cons (ps_if (pt_not (pt_val (pe_cal (E := E0) Cis_field hr (by decide) (by rfl) pass0 (pa_cons (pv 0) pa_nil)))) (pss_one ps_never) pss_nil)
    (pss_cons (ps_if (pt_not (pt_val (pe_cal (E := E0) Cis_letter hr (by decide) (by rfl) pass0 (pa_cons (pv 1) (pa_cons (pv 0) pa_nil))))) (pss_one ps_never) pss_nil)
    (pss_cons (ps_for PassesOwn.never rfl (pi_range2 (by rfl) T.nrange (pa_cons pe_int (pa_cons (pv 0) pa_nil))) (pg_name (i := 2) SC.nd rfl (.inl rfl)) (pss_one (ps_if (pt_cmpR op_eq (pe_op op_mod (pe_op op_mul (pv 1) (pv 2)) (pv 0)) pe_int (nomark _)) (pss_one (ps_ret (pv 2))) pss_nil)))
    (pss_one ps_never)))), ?_⟩
  have p5 := hp.five
  have p2 := hp.two
  obtain ⟨i1, i2, i3⟩ := inv_ok hp h1 h2
  refine ⟨_, rfl, p, rfl, hp, true, rfl, iteF ?_⟩
  refine ⟨_, rfl, _, rfl, .int a, p, _, rfl, .int a, ?_⟩
  have e : letB (.int a) p = true := decide_eq_true (show 0 ≤ a ∧ a < p by omega)
  rw [e]
  refine ⟨true, rfl, iteF ?_⟩
  refine ⟨_, rfl, 1, p, rfl, ⟨by omega, by omega, by omega, by omega⟩, for_range (lo := 1) (n := (p - 1).toNat) (fun i σ H' => H' = H ∧ (∃ y, σ = [some (.int p), some (.int a), y]) ∧ (i : Int) < inv p a) ⟨rfl, ⟨none, rfl⟩, by show ((0 : Nat) : Int) < _; omega⟩ ?_ ?_⟩
  · rintro i σ H' hi ⟨rfl, ⟨y, rfl⟩, hb⟩
    refine ⟨_, rfl, _, rfl, _, _, rfl, rfl, .inl (show -(2 ^ 64) < a ∧ a < 2 ^ 64 by omega), _, rfl, _, _, rfl, rfl, (show (0 : Int) < p by omega), rfl, _, rfl, ite2 (fun e => ?_) (fun e => ?_)⟩
    · have e' : a * (1 + (i : Int)) % p = 1 := V.int.inj (of_decide_eq_true e)
      have := inv_is hp h1 h2 (by omega) (by omega) e'
      refine ⟨_, rfl, ?_⟩
      rw [this]; exact q
    · refine ⟨rfl, ⟨_, rfl⟩, ?_⟩
      have : (1 + (i : Int)) ≠ inv p a := fun z => e (decide_eq_true (congrArg V.int (show a * (1 + (i : Int)) % p = 1 by rw [z]; exact i3)))
      show ((i + 1 : Nat) : Int) < _
      omega
  · rintro σ H' ⟨rfl, _, hb⟩
    omega
end
end K17
end

section
set_option linter.all false
set_option maxRecDepth 100000
set_option maxHeartbeats 2000000
namespace K17
open PySem PySem.Spec PyProof.Rows L2 G17 M17
open GxR (TabG Tabbed)
open LamX (TabB)
/-- is v a row of n letters for p? the answer b -/
def RowR (H : Hp) (p n : Int) (v : V) (b : Bool) : Prop := (∃ t, Kd H v t ∧ t ≠ "tuple" ∧ b = false) ∨ ∃ a xs, v = .ref a ∧ H a = some (.tup xs) ∧ (∀ x ∈ xs, ∃ t, Kd H x t) ∧ b = (decide ((xs.length : Int) = n) && xs.all fun x => letB x p)
def MatR (H : Hp) (p n : Int) (v : V) (b : Bool) : Prop := (∃ t, Kd H v t ∧ t ≠ "tuple" ∧ b = false) ∨ ∃ a vs bs, v = .ref a ∧ H a = some (.tup vs) ∧ Paired (RowR H p n) vs bs ∧ b = bs.all id
section
variable {T M : List Addr} {H H' : Hp} {p n : Int} {v : V} {b : Bool}
theorem RowR.mono (e : Ext T [] H H') (h : RowR H p n v b) : RowR H' p n v b := by
  rcases h with ⟨t, h1, h2, h3⟩ | ⟨a, xs, h1, h2, h3, h4⟩
  · exact .inl ⟨t, h1.mono (M := []) e, h2, h3⟩
  · exact .inr ⟨a, xs, h1, e.tup _ _ h2, fun x hx => let ⟨t, q⟩ := h3 x hx; ⟨t, q.mono (M := []) e⟩, h4⟩
theorem MatR.mono (e : Ext T [] H H') (h : MatR H p n v b) : MatR H' p n v b := by
  rcases h with ⟨t, h1, h2, h3⟩ | ⟨a, xs, bs, h1, h2, h3, h4⟩
  · exact .inl ⟨t, h1.mono (M := []) e, h2, h3⟩
  · exact .inr ⟨a, xs, bs, h1, e.tup _ _ h2, L2.Paired.mapP h3 fun _ _ q => q.mono e, h4⟩
theorem RowR.row {r : M17.Row} {m : Nat} (h : Rw H v r) (hr : OkR p m r) : RowR H p m v true := by
  obtain ⟨a, rfl, ha⟩ := h
  refine .inr ⟨a, _, rfl, ha, fun x hx => ?_, ?_⟩
  · obtain ⟨i, _, rfl⟩ := List.mem_map.mp hx
    exact ⟨_, .int i⟩
  · rw [List.length_map, hr.1, decide_eq_true rfl, Bool.true_and]
    refine (List.all_eq_true.mpr fun x hx => ?_).symm
    obtain ⟨i, hi, rfl⟩ := List.mem_map.mp hx
    exact decide_eq_true (hr.2 i hi)
theorem MatR.mx {m : List M17.Row} {k : Nat} (h : Mx H v m) (hm : OkM p k m) : MatR H p k v true := by
  obtain ⟨a, vs, rfl, ha, hp⟩ := h
  refine .inr ⟨a, vs, vs.map fun _ => true, rfl, ha, ?_, ?_⟩
  · clear ha
    induction hp with
    | nil => exact .nil
    | cons q t ih => exact .cons (RowR.row q (hm _ (by simp))) (ih fun r hr => hm r (List.mem_cons_of_mem _ hr))
  · refine (List.all_eq_true.mpr fun x hx => ?_).symm
    obtain ⟨_, _, rfl⟩ := List.mem_map.mp hx
    rfl
end
theorem ktup {K : PySem.W.Frag} {H : Hp} {v : V} {t : String} (h : Kd H v t) : PySem.W.kitOne K (.type t) (.type "tuple") = some (decide (t = "tuple")) := by
  cases h <;> exact kit_ty (by decide +kernel)
theorem kdList {K : PySem.W.Frag} {H : Hp} {v : V} {t : String} (h : Kd H v t) : PySem.W.kitOne K (.type t) (.type "list") = some (decide (t = "list")) := by
  cases h <;> exact kit_ty (by decide +kernel)
theorem all_at {xs : List V} {f : V → Bool} : (∀ j, j < xs.length → f (xs.getD j .non) = true) → xs.all f = true := fun h => List.all_eq_true.mpr fun x hx => by
  obtain ⟨i, hi, e⟩ := List.getElem_of_mem hx
  have := h i hi
  rw [List.getD_eq_getElem?_getD, List.getElem?_eq_getElem hi, e] at this
  exact this
theorem all_no {α : Type} {xs : List α} {f : α → Bool} {d : α} {i : Nat} (hi : i < xs.length) (h : f (xs.getD i d) = false) : xs.all f = false := by
  rw [List.getD_eq_getElem?_getD, List.getElem?_eq_getElem hi] at h
  exact List.all_eq_false.mpr ⟨_, List.getElem_mem hi, by rw [show f xs[i] = false from h]; decide⟩
theorem getD_of {α : Type} {xs : List α} {i : Nat} {x d : α} (h : xs[i]? = some x) : xs.getD i d = x := by rw [List.getD_eq_getElem?_getD, h]; rfl
section
variable {P : Program} {w : World} {K : PySem.W.Frag} {mg : Str → Option Value} {base : Heap} {TT : List Addr} {c Pt : Addr}
theorem sc_is_row : FnScope ["value", "p", "columns"] ["value", "p", "columns"] (defScope (topS 26)) := ⟨rfl, rfl, rfl, by decide +kernel, rfl, by decide +kernel, by decide +kernel⟩
def sp_is_row (TT : List Addr) : Sp := fun vs H Q _ => ∃ v p n b, vs = [v, .int p, .int n] ∧ Tabs TT H ∧ RowR H p n v b ∧ ∀ H', Ext TT [] H H' → Q (.bl b) H'
theorem c_is_row (F : ∃ f fd, FunAt K mg "is_row" "is_row" (topS 26) f fd ∧ fd.code = .ref c) (TB : TabB base mg c Pt) (hPt : Pt ∈ TT) (T : Bl K mg) (Cis_letter : Cal P w K mg base CX0 "is_letter" 1 ["value", "p"] sp_is_letter) :
    Cal P w K mg base CX0 "is_row" 3 ["value", "p", "columns"] (sp_is_row TT) := by
  have SC := sc_is_row
  refine cal_ofT F sc_is_row (fun _ _ _ _ _ _ us hl => match us, hl with | [_, _, _], _ => rfl) (fun vs H Q E h => by obtain ⟨v, p, n, b, rfl, _⟩ := h; rfl) fun f cdv A outer s H vs Q E hcode hr h => ?_
  obtain ⟨v, p, n, b, rfl, tb, hR, q⟩ := h
  refine ⟨_, (pss_one (ps_ret (pe_and (pe_callB call_isi (by rfl) T.nisinstance (by decide +kernel) (pa_cons (pv 0) (pa_cons (pe_bltn (v := .ty "tuple") (u := .type "tuple") (by rfl) T.ntuple (by decide +kernel) rfl) pa_nil))) (pe_and (pe_cmpR op_eq (pe_callB call_len_seq (by rfl) T.nlen (by decide +kernel) (pa_cons (pv 0) pa_nil)) (pv 2) (nomark _)) (pe_one (pe_allT hr (by rfl) T.nall TB hcode (gscp_by (by kernel_rfl)) SC.nd (pv 0) (fun _ _ _ _ _ => (pe_cal (E := E0) Cis_letter (gRoom hr) (by decide) (by rfl) pass0 (pa_cons (pv 0) (pa_cons (pv 2) pa_nil)))))))))), ?_⟩
  rcases hR with ⟨t, kd, ht, rfl⟩ | ⟨a, xs, rfl, ha, hk, rfl⟩
  · refine ⟨_, rfl, _, _, _, _, _, rfl, .ty _, kd.ty, ktup kd, _, rfl, ?_⟩
    rw [decide_eq_false ht]
    exact iteF (q H (.refl H))
  · refine ⟨_, rfl, _, _, _, _, _, rfl, .ty _, (Kd.tup ha).ty, ktup (Kd.tup ha), _, rfl, iteT ?_⟩
    refine ⟨_, rfl, a, xs, rfl, .inr (sqt ha), _, rfl, rfl, _, rfl, ite2 (fun e => ?_) (fun e => ?_)⟩
    · have e1 : (xs.length : Int) = n := V.int.inj (of_decide_eq_true e)
      rw [decide_eq_true e1, Bool.true_and] at q
      refine ⟨_, rfl, a, xs, rfl, sqt ha, tb Pt hPt, fun H2 ht => ?_⟩
      have x2 : Ext TT [] H H2 := .tabbed (tb Pt hPt) ht
      refine ⟨fun _ H3 => H3 = H2, fun i => letB (xs.getD i .non) p, rfl, fun i H3 _ e => by rw [e]; exact sqt (x2.tup _ _ ha), fun i y H3 hy e => ?_, fun i H3 hi hb e => ?_, fun H3 hb e => ?_⟩
      · subst e
        obtain ⟨t, kd⟩ := hk y (List.mem_of_getElem? hy)
        refine ⟨_, rfl, _, rfl, _, _, t, rfl, kd.mono (M := []) x2, ?_, rfl⟩
        show V.bl (letB y p) = V.bl (letB (xs.getD i .non) p)
        rw [getD_of hy]
      · subst e
        rw [all_no (f := fun x => letB x p) hi hb] at q
        exact q _ x2
      · subst e
        rw [all_at (f := fun x => letB x p) hb] at q
        exact q _ x2
    · have e1 : ¬ (xs.length : Int) = n := fun z => e (decide_eq_true (congrArg V.int z))
      rw [decide_eq_false e1] at q
      exact q H (.refl H)
theorem sc_is_matrix : FnScope ["value", "p", "columns"] ["value", "p", "columns"] (defScope (topS 27)) := ⟨rfl, rfl, rfl, by decide +kernel, rfl, by decide +kernel, by decide +kernel⟩
def sp_is_matrix (TT : List Addr) : Sp := fun vs H Q _ => ∃ v p n b, vs = [v, .int p, .int n] ∧ Tabs TT H ∧ MatR H p n v b ∧ ∀ H', Ext TT [] H H' → Q (.bl b) H'
theorem c_is_matrix (F : ∃ f fd, FunAt K mg "is_matrix" "is_matrix" (topS 27) f fd ∧ fd.code = .ref c) (TB : TabB base mg c Pt) (hPt : Pt ∈ TT) (T : Bl K mg) (Cis_row : Cal P w K mg base CX0 "is_row" 3 ["value", "p", "columns"] (sp_is_row TT)) :
    Cal P w K mg base CX0 "is_matrix" 5 ["value", "p", "columns"] (sp_is_matrix TT) := by
  have SC := sc_is_matrix
  refine cal_ofT F sc_is_matrix (fun _ _ _ _ _ _ us hl => match us, hl with | [_, _, _], _ => rfl) (fun vs H Q E h => by obtain ⟨v, p, n, b, rfl, _⟩ := h; rfl) fun f cdv A outer s H vs Q E hcode hr h => ?_
  obtain ⟨v, p, n, b, rfl, tb, hR, q⟩ := h
  refine ⟨_, (pss_one (ps_ret (pe_and (pe_callB call_isi (by rfl) T.nisinstance (by decide +kernel) (pa_cons (pv 0) (pa_cons (pe_bltn (v := .ty "tuple") (u := .type "tuple") (by rfl) T.ntuple (by decide +kernel) rfl) pa_nil))) (pe_one (pe_allT hr (by rfl) T.nall TB hcode (gscp_by (by kernel_rfl)) SC.nd (pv 0) (fun _ _ _ _ _ => (pe_cal (E := E0) Cis_row (gRoom hr) (by decide) (by rfl) pass0 (pa_cons (pv 0) (pa_cons (pv 2) (pa_cons (pv 3) pa_nil)))))))))), ?_⟩
  rcases hR with ⟨t, kd, ht, rfl⟩ | ⟨a, xs, bs, rfl, ha, hk, rfl⟩
  · refine ⟨_, rfl, _, _, _, _, _, rfl, .ty _, kd.ty, ktup kd, _, rfl, ?_⟩
    rw [decide_eq_false ht]
    exact iteF (q H (.refl H))
  · refine ⟨_, rfl, _, _, _, _, _, rfl, .ty _, (Kd.tup ha).ty, ktup (Kd.tup ha), _, rfl, iteT ?_⟩
    refine ⟨_, rfl, a, xs, rfl, sqt ha, tb Pt hPt, fun H2 ht => ?_⟩
    have x2 : Ext TT [] H H2 := .tabbed (tb Pt hPt) ht
    have hl := hk.length
    refine ⟨fun _ H3 => Ext TT [] H H3, fun i => bs.getD i false, x2, fun i H3 _ x3 => sqt (x3.tup _ _ ha), fun i y H3 hy x3 => ?_, fun i H3 hi hb x3 => ?_, fun H3 hb x3 => ?_⟩
    · obtain ⟨b, hb, hr2⟩ := paired_get hk hy
      refine ⟨_, rfl, _, rfl, _, rfl, _, _, _, b, rfl, x3.tabs tb, hr2.mono x3, fun H4 x4 => ⟨?_, x3.trans x4⟩⟩
      show V.bl b = V.bl (bs.getD i false)
      rw [getD_of hb]
    · rw [all_no (f := id) (i := i) (d := false) (by omega) hb] at q
      exact q _ x3
    · have : bs.all id = true := List.all_eq_true.mpr fun b hb' => by
        obtain ⟨i, hi, e⟩ := List.getElem_of_mem hb'
        have : bs.getD i false = true := hb i (by omega)
        rw [getD_of (List.getElem?_eq_getElem hi), e] at this
        exact this
      rw [this] at q
      exact q _ x3
theorem sc_is_lis : FnScope ["value", "p", "size"] ["value", "p", "size"] (defScope (topS 39)) := ⟨rfl, rfl, rfl, by decide +kernel, rfl, by decide +kernel, by decide +kernel⟩
/-- is_listener of a listener -/
def sp_is_lis (TT : List Addr) : Sp := fun vs H Q _ => ∃ v p n l, vs = [v, .int p, .int ((n : Nat) : Int)] ∧ Tabs TT H ∧ Ls H v l ∧ OkM p n l.1 ∧ OkM p n l.2 ∧ ∀ H', Ext TT [] H H' → Q (.bl true) H'
theorem c_is_lis (F : ∃ f fd, FunAt K mg "is_listener_audiences" "is_listener" (topS 39) f fd ∧ fd.code = .ref c) (TB : TabB base mg c Pt) (hPt : Pt ∈ TT) (T : Bl K mg) (Cis_matrix : Cal P w K mg base CX0 "is_matrix" 5 ["value", "p", "columns"] (sp_is_matrix TT)) :
    Cal P w K mg base CX0 "is_listener_audiences" 7 ["value", "p", "size"] (sp_is_lis TT) := by
  have SC := sc_is_lis
  refine cal_ofT F sc_is_lis (fun _ _ _ _ _ _ us hl => match us, hl with | [_, _, _], _ => rfl) (fun vs H Q E h => by obtain ⟨v, p, n, l, rfl, _⟩ := h; rfl) fun f cdv A outer s H vs Q E hcode hr h => ?_
  obtain ⟨v, p, n, l, rfl, tb, ⟨a, k, u, rfl, ha, hk, hu⟩, o1, o2, q⟩ := h
  refine ⟨_, (pss_one (ps_ret (pe_and (pe_callB call_isi (by rfl) T.nisinstance (by decide +kernel) (pa_cons (pv 0) (pa_cons (pe_bltn (v := .ty "tuple") (u := .type "tuple") (by rfl) T.ntuple (by decide +kernel) rfl) pa_nil))) (pe_and (pe_cmpR op_eq (pe_callB call_len_seq (by rfl) T.nlen (by decide +kernel) (pa_cons (pv 0) pa_nil)) pe_int (nomark _)) (pe_one (pe_allT hr (by rfl) T.nall TB hcode (gscp_by (by kernel_rfl)) SC.nd (pv 0) (fun _ _ _ _ _ => (pe_cal (E := E0) Cis_matrix (gRoom hr) (by decide) (by rfl) pass0 (pa_cons (pv 0) (pa_cons (pv 2) (pa_cons (pv 3) pa_nil))))))))))), ?_⟩
  refine ⟨_, rfl, _, _, _, _, _, rfl, .ty _, (Kd.tup ha).ty, ktup (Kd.tup ha), _, rfl, iteT ?_⟩
  refine ⟨_, rfl, a, _, rfl, .inr (sqt ha), rfl, _, rfl, ite2 (fun _ => ?_) (fun e => absurd (decide_eq_true rfl) e)⟩
  refine ⟨_, rfl, a, _, rfl, sqt ha, tb Pt hPt, fun H2 ht => ?_⟩
  have x2 : Ext TT [] H H2 := .tabbed (tb Pt hPt) ht
  refine ⟨fun _ H3 => Ext TT [] H H3, fun i => true, x2, fun i H3 _ x3 => sqt (x3.tup _ _ ha), fun i y H3 hy x3 => ?_, fun i H3 hi hb _ => Bool.noConfusion (show true = false from hb), fun H3 hb x3 => q _ x3⟩
  refine ⟨_, rfl, _, rfl, _, rfl, y, p, n, true, rfl, x3.tabs tb, ?_, fun H4 x4 => ⟨rfl, x3.trans x4⟩⟩
  match i, hy with
  | 0, hy =>
    have : y = k := (Option.some.inj hy).symm
    rw [this]
    exact .mx (hk.mono x3) o1
  | 1, hy =>
    have : y = u := (Option.some.inj hy).symm
    rw [this]
    exact .mx (hu.mono x3) o2
end
end K17
end

section
set_option linter.all false
set_option maxRecDepth 100000
set_option maxHeartbeats 2000000
/-! lists that grow by turns -/
namespace K17
open PySem PySem.Spec PyProof.Rows L2 G17 M17
open GxR (TabG Tabbed)
/-- what is told of an element: it stays while all but D stays -/
structure Stay {α : Type} (T M : List Addr) (D : Addr) (R : Hp → V → α → Prop) : Prop where
  e : ∀ {H H' : Hp} {v : V} {a : α}, Ext T M H H' → R H v a → R H' v a
  u : ∀ {H : Hp} {o o' : HO} {v : V} {a : α}, H D = some o → (∀ xs, o ≠ .tup xs) → R H v a → R (upd H D o') v a
/-- the list at D, its elements told of by l i -/
def LP {α : Type} (T M : List Addr) (D : Addr) (H1 : Hp) (R : Hp → V → α → Prop) (l : Nat → List α) (i : Nat) (H : Hp) : Prop :=
  ∃ vs, H D = some (.lst vs) ∧ Paired (R H) vs (l i) ∧ Ext T M H1 H
section
variable {α : Type} {T M : List Addr} {D : Addr} {H1 H H4 : Hp} {R : Hp → V → α → Prop} {l : Nat → List α} {i : Nat} {y : V} {b : α}
theorem LP.start (h0 : l 0 = []) (hD : H1 D = none) : LP T M D H1 R l 0 (upd H1 D (.lst [])) := ⟨[], upd_same, by rw [h0]; exact .nil, .new hD⟩
theorem LP.push (hD : H1 D = none) (hM : D ∉ M) (s : Stay T M D R) (p : LP T M D H1 R l i H) (x : Ext T M H H4) (hl : l (i + 1) = l i ++ [b]) (hy : R (upd H4 D (.lst [])) y b) (hy2 : ∀ xs, R (upd H4 D (.lst [])) y b → R (upd H4 D (.lst xs)) y b) (hz : (l i).length < sizeLine) :
    ∃ acc, H4 D = some (.lst acc) ∧ acc.length < sizeLine ∧ LP T M D H1 R l (i + 1) (upd H4 D (.lst (acc ++ [y]))) := by
  obtain ⟨vs, h1, h2, h3⟩ := p
  have h4 : H4 D = some (.lst vs) := x.keep D _ hM h1 (fun ps z => by cases z)
  refine ⟨vs, h4, by rw [h2.length]; exact hz, _, upd_same, ?_, (h3.trans x).mut hD⟩
  rw [hl]
  exact paired_append (L2.Paired.mapP h2 fun _ _ q => s.u h4 (fun xs z => by cases z) (s.e x q)) (.cons (hy2 _ hy) .nil)
theorem LP.skip (s : Stay T M D R) (hM : D ∉ M) (p : LP T M D H1 R l i H) (x : Ext T M H H4) (hl : l (i + 1) = l i) : LP T M D H1 R l (i + 1) H4 := by
  obtain ⟨vs, h1, h2, h3⟩ := p
  exact ⟨vs, x.keep D _ hM h1 (fun ps z => by cases z), by rw [hl]; exact L2.Paired.mapP h2 fun _ _ q => s.e x q, h3.trans x⟩
end
/-- ints -/
def RI : Hp → V → Int → Prop := fun _ v a => v = .int a
theorem stayI {T M : List Addr} {D : Addr} : Stay T M D RI := ⟨fun _ h => h, fun _ _ h => h⟩
theorem pairedI {H : Hp} : ∀ {vs : List V} {l : List Int}, Paired (RI H) vs l → vs = l.map V.int
  | _, _, .nil => rfl
  | _, _, .cons h t => by rw [show _ = V.int _ from h, pairedI t]; rfl
theorem paired_ints {H : Hp} : ∀ (l : List Int), Paired (RI H) (l.map V.int) l
  | [] => .nil
  | _ :: t => .cons rfl (paired_ints t)
theorem LP.pushI {T M : List Addr} {D : Addr} {H1 H H4 : Hp} {l : Nat → List Int} {i : Nat} {b : Int} (hD : H1 D = none) (hM : D ∉ M) (p : LP T M D H1 RI l i H) (x : Ext T M H H4) (hl : l (i + 1) = l i ++ [b]) (hz : (l i).length < sizeLine) :
    ∃ acc, H4 D = some (.lst acc) ∧ acc.length < sizeLine ∧ LP T M D H1 RI l (i + 1) (upd H4 D (.lst (acc ++ [.int b]))) := p.push hD hM stayI x hl rfl (fun _ h => h) hz
theorem LP.ints {T M : List Addr} {D : Addr} {H1 H : Hp} {l : Nat → List Int} {i : Nat} (p : LP T M D H1 RI l i H) : H D = some (.lst ((l i).map V.int)) := by
  obtain ⟨vs, h1, h2, _⟩ := p
  rw [h1, pairedI h2]
theorem LP.ext {α : Type} {R : Hp → V → α → Prop} {T M : List Addr} {D : Addr} {H1 H : Hp} {l : Nat → List α} {i : Nat} (p : LP T M D H1 R l i H) : Ext T M H1 H := let ⟨_, _, _, h⟩ := p; h
/-- rows -/
theorem tup_upd {H : Hp} {D b : Addr} {o o' : HO} {xs : List V} (h : H D = some o) (n : ∀ xs, o ≠ .tup xs) (hb : H b = some (.tup xs)) : upd H D o' b = some (.tup xs) := by
  rw [upd_ne (fun z => by rw [z, h] at hb; exact n _ (Option.some.inj hb))]; exact hb
theorem stayR {T M : List Addr} {D : Addr} : Stay T M D Rw := ⟨fun x h => h.mono x, fun h n ⟨b, e, hb⟩ => ⟨b, e, tup_upd h n hb⟩⟩
theorem LP.pushR {T M : List Addr} {D : Addr} {H1 H H4 : Hp} {l : Nat → List (List Int)} {i : Nat} {y : V} {b : List Int} (hD : H1 D = none) (hM : D ∉ M) (p : LP T M D H1 Rw l i H) (x : Ext T M H H4) (hy : Rw H4 y b) (hl : l (i + 1) = l i ++ [b]) (hz : (l i).length < sizeLine) :
    ∃ acc, H4 D = some (.lst acc) ∧ acc.length < sizeLine ∧ LP T M D H1 Rw l (i + 1) (upd H4 D (.lst (acc ++ [y]))) := by
  have h4 : ∃ vs, H4 D = some (.lst vs) := let ⟨vs, h1, _, _⟩ := p; ⟨vs, x.keep D _ hM h1 (fun ps z => by cases z)⟩
  obtain ⟨vs, h4⟩ := h4
  exact p.push hD hM stayR x hl (stayR.u (T := T) (M := M) h4 (fun xs z => by cases z) hy) (fun xs _ => stayR.u (T := T) (M := M) h4 (fun xs z => by cases z) hy) hz
theorem range_map_succ {α : Type} {f : Nat → α} {i : Nat} : (List.range (i + 1)).map f = (List.range i).map f ++ [f i] := by rw [List.range_succ, List.map_append]; rfl
theorem take_succ_of {α : Type} {xs : List α} {i : Nat} {x : α} (h : xs[i]? = some x) : xs.take (i + 1) = xs.take i ++ [x] := by rw [List.take_add_one, h]; rfl
theorem walk_zipT {K : PySem.W.Frag} {a b : Addr} {xs ys : List V} {n : Nat} (hn : n = min xs.length ys.length) : Walk (RZ.ItzT K a b) n (fun H => SqT K H a xs ∧ SqT K H b ys) (YPair (fun i => xs[i]?) (fun i => ys[i]?)) := by
  subst hn
  refine ⟨fun i _ hi q => ?_, fun _ q => ⟨xs, ys, q.1, q.2, by omega⟩, fun i H v H' _ q y => ?_⟩
  · have h1 : i < xs.length := by omega
    have h2 : i < ys.length := by omega
    exact ⟨xs, ys, xs[i], ys[i], q.1, q.2, by simp [h1], by simp [h2]⟩
  · obtain ⟨T, x, z, h1, h2, h3, h4, h5⟩ := y
    exact ⟨T, x, z, h1, h2, h3, h4 xs q.1, h5 ys q.2⟩
/-- a, b = .. of two names, no default to be found -/
theorem pg_pair {X : Cx} {K : PySem.W.Frag} {i j k : Nat} {x y : Str} {p1 p2 pos : Pos} (hK : X.K = K) (hc : X.calm = true) (hN : X.N.Nodup) (hi : X.N[i]? = some x) (hj : X.N[j]? = some y) (hx : Loc X.env.scope x) (hy : Loc X.env.scope y)
    (fx : X.fn x = true ∨ X.env.scope.names.lookup x = some .local) (fy : X.fn y = true ∨ X.env.scope.names.lookup y = some .local) : PG X (.Tuple [.Name x p1, .Name y p2] k pos) (gTup K 2 (gCons (gName i) (gCons (gName j) gNil))) :=
  hK ▸ pg_tup hc (pgs_cons (pg_name hN hi hx fx) (pgs_cons (pg_name hN hj hy fy) pgs_nil))
/-! the rules that name the fragment, by its own name -/
section
variable {X : Cx} {K : PySem.W.Frag}
theorem ix_tupK (h : X.K = K) : IxR X (rIxT K) := h ▸ ix_tup
theorem ix_listK (h : X.K = K) : IxR X (rIxL K) := h ▸ ix_list
theorem call_len_seqK (h : X.K = K) : CallR X (.builtin "len") (fun xs H Q => ∃ p ys, xs = [.ref p] ∧ (SqL K H p ys ∨ SqT K H p ys) ∧ Q (.int ys.length) H) := h ▸ call_len_seq
theorem call_isiK (h : X.K = K) : CallR X (.builtin "isinstance") (rIsi K) := h ▸ call_isi
theorem call_tuple_ofK (h : X.K = K) : CallR X (.type "tuple") (fun xs H Q => ∃ p ys, xs = [.ref p] ∧ ((SqL K H p ys ∧ ∀ l, H l = none → Q (.ref l) (upd H l (.tup ys))) ∨ (SqT K H p ys ∧ Q (.ref p) H))) := h ▸ call_tuple_of
theorem call_list_ofK (h : X.K = K) : CallR X (.type "list") (fun xs H Q => ∃ p ys, xs = [.ref p] ∧ (SqL K H p ys ∨ SqT K H p ys) ∧ ∀ l, H l = none → Q (.ref l) (upd H l (.lst ys))) := h ▸ call_list_of
theorem pa_starK (h : X.K = K) {e : Expr} {es : List Expr} {te : TE} {t : TA} {p : Pos} (he : PE X e te) (hr : PA X es t) (hs : starEach (.Starred e p :: es) X.env = (true, eval e X.env) :: starEach es X.env := by rfl) : PA X (.Starred e p :: es) (StX.tStar K te t) := h ▸ StX.pa_star he hr hs
theorem bmK (h : X.K = K) {e : Expr} {T : String} {r : V → List V → Hp → VK → Prop} {to : TE} {t : TA} (p : PE X e (tBM X.K T r to t)) : PE X e (tBM K T r to t) := h ▸ p
theorem bm0K (h : X.K = K) {e : Expr} {T : String} {r : V → List V → Hp → VK → Prop} {to : TE} (p : PE X e (tBM0 X.K T r to)) : PE X e (tBM0 K T r to) := h ▸ p
theorem fldK (h : X.K = K) {e : Expr} {ta : TE} {f : Str} (p : PE X e (tFld X.K ta f)) : PE X e (tFld K ta f) := h ▸ p
theorem op_catAK (h : X.K = K) : OpR X (binaryOp .Add) (rCatA K) := h ▸ op_catA
theorem pi_tupK (h : X.K = K) {tg e : Expr} {te : TE} (he : PE X e te) : PI X tg e (iTup K te) := h ▸ pi_tup he
theorem pi_listK (h : X.K = K) {tg e : Expr} {te : TE} (he : PE X e te) : PI X tg e (iList K te) := h ▸ pi_list he
end
theorem ixNat {n j : Nat} (hj : j < n) : ixN n (j : Int) = some j := by
  unfold ixN
  rw [if_pos (by omega), if_pos (by omega)]
  rfl
theorem seqNat {n j : Nat} (hj : j < n) : seqIndex? (j : Int) n = some j := (ixN_seq (ixNat hj)).1
theorem atI_neg {r : List Int} {m : Nat} (h : r.length = m + 1) : L2.atI (r.map V.int) (-1) = some (.int (g r m)) := by
  have e : ixN (r.map V.int).length (-1) = some m := by
    unfold ixN
    rw [List.length_map, h, if_neg (by decide), if_pos (by omega)]
    congr 1
    omega
  unfold L2.atI
  rw [e, Option.bind_some, List.getElem?_map, List.getElem?_eq_getElem (by omega), g_of (List.getElem?_eq_getElem (by omega))]
  rfl
theorem yes {A B : Hp → Prop} {σ : L2.St} {H : Hp} (h : A H) : tYes σ H fun b H3 => if b = true then A H3 else B H3 := iteT (A := A H) (B := B H) h
theorem getI {r : List Int} {i : Nat} {v : V} (h : (r.map V.int)[i]? = some v) : v = .int (g r i) ∧ i < r.length := by
  rw [List.getElem?_map] at h
  cases e : r[i]? with
  | none => rw [e] at h; cases h
  | some x => rw [e] at h; rw [g_of e]; exact ⟨(Option.some.inj h).symm, (List.getElem?_eq_some_iff.mp e).1⟩
theorem atI {r : List Int} {i : Nat} (h : i < r.length) : (r.map V.int)[i]? = some (.int (g r i)) := by
  rw [List.getElem?_map, List.getElem?_eq_getElem h, g_of (List.getElem?_eq_getElem h)]; rfl
end K17
end

section
set_option linter.all false
set_option maxRecDepth 100000
set_option maxHeartbeats 2000000
namespace K17
open PySem PySem.Spec PyProof.Rows L2 G17 M17
open GxR (TabG Tabbed)
section
variable {P : Program} {w : World} {K : PySem.W.Frag} {mg : Str → Option Value} {base : Heap} {TT : List Addr}
theorem sc_less : FnScope ["p", "row", "times", "other", "mine", "its"] ["p", "row", "times", "other"] (defScope (topS 29)) := ⟨rfl, rfl, rfl, by decide +kernel, rfl, by decide +kernel, by decide +kernel⟩
def sp_less (TT : List Addr) : Sp := fun vs H Q _ => ∃ v u p t n r o, vs = [.int p, v, .int t, u] ∧ isP p ∧ n ≤ 1000 ∧ OkR p n r ∧ OkR p n o ∧ (0 ≤ t ∧ t < p) ∧ Rw H v r ∧ Rw H u o ∧ ∀ H' y, Ext TT [] H H' → Rw H' y (less p r t o) → Q y H'
theorem less_take {p t : Int} {r o : List Int} {n i : Nat} (h1 : r.length = n) (h2 : o.length = n) (hi : i < n) : (less p r t o).take (i + 1) = (less p r t o).take i ++ [(g r i - t * g o i) % p] := by
  refine take_succ_of ?_
  have hl : i < (less p r t o).length := by unfold less; rw [List.length_zipWith]; omega
  rw [List.getElem?_eq_getElem hl, ← g_of (List.getElem?_eq_getElem hl), g_less h1 h2 hi]
theorem c_less (F : ∃ f fd, FunAt K mg "_less" "_less" (topS 29) f fd) (T : Bl K mg) : Cal P w K mg base CX0 "_less" 1 ["p", "row", "times", "other"] (sp_less TT) := by
  have SC := sc_less
  refine cal_of F sc_less (fun _ _ _ _ _ _ us hl => match us, hl with | [_, _, _, _], _ => rfl) (fun vs H Q E h => by obtain ⟨v, u, p, t, n, r, o, rfl, _⟩ := h; rfl) fun f cdv A outer s H vs Q E hr h => ?_
  obtain ⟨v, u, p, t, n, r, o, rfl, hp, hn, or, oo, ht, ⟨a, rfl, ha⟩, ⟨b, rfl, hb⟩, q⟩ := h
  refine ⟨_, (pss_one (ps_ret (pe_callTy call_tuple_of (by rfl) T.ntuple (by decide +kernel) (pa_cons (pe_lc (own := [("mine", 4), ("its", 5)]) (by rfl) SC.nd (RZ.pi_zipA (by rfl) T.nzip (pa_cons (pv 1) (pa_cons (pv 3) pa_nil))) (blkOk_by (by kernel_rfl)) (by intro _ _ _ _ _; exact (pg_pair (K := K) (i := 4) (j := 5) rfl rfl SC.nd rfl rfl (.inl rfl) (.inl rfl) (by first | exact .inr rfl | exact .inl rfl) (by first | exact .inr rfl | exact .inl rfl))) (by intro _ _ _ _ _; exact pts_nil) (by intro _ _ _ _ _; exact (pe_op op_mod (pe_op op_sub (pv 4) (pe_op op_mul (pv 2) (pv 5))) (pv 0)))) pa_nil)))), ?_⟩
  have p5 := hp.five
  have p2 := hp.two
  have l1 := or.1
  have l2 := oo.1
  refine ⟨_, rfl, _, rfl, a, b, _, _, rfl, .inr ⟨sqt ha, sqt hb, fun D hD => lc_it (walk_zipT (n := n) (by simp only [List.length_map]; omega)) (LP TT [] D H RI fun i => (less p r t o).take i) (.start rfl hD) (fun i H3 _ x => ⟨sqt (x.ext.tup _ _ ha), sqt (x.ext.tup _ _ hb)⟩) ?_ ?_⟩⟩
  · rintro i x H3 H4 hi lp ⟨A, y1, y2, rfl, hA, rfl, e1, e2⟩
    obtain ⟨rfl, _⟩ := getI e1
    obtain ⟨rfl, _⟩ := getI e2
    have b1 := g_ok (by omega) or i
    have b2 := g_ok (by omega) oo i
    refine ⟨A, _, rfl, sqt upd_same, rfl, _, _, rfl, _, _, rfl, rfl, rfl, yes ⟨_, rfl, _, rfl, _, rfl, _, _, rfl, rfl, .inl (show -(2 ^ 64) < t ∧ t < 2 ^ 64 by omega), _, _, rfl, rfl, _, rfl, _, _, rfl, rfl, (show (0 : Int) < p by omega), ?_⟩⟩
    exact lp.pushI hD (by simp) (.new hA) (less_take l1 l2 hi) (lz1000 (by rw [List.length_take]; omega))
  · intro H3 lp
    refine ⟨D, _, rfl, .inl ⟨sql lp.ints, fun l hl => q _ _ (lp.ext.trans (.new hl)) ⟨l, rfl, ?_⟩⟩⟩
    rw [List.take_of_length_le (by unfold less; rw [List.length_zipWith]; omega)]
    exact upd_same
end
end K17
end

section
set_option linter.all false
set_option maxRecDepth 100000
set_option maxHeartbeats 2000000
namespace K17
open PySem PySem.Spec PyProof.Rows L2 G17 M17
open GxR (TabG Tabbed)
section
variable {P : Program} {w : World} {K : PySem.W.Frag} {mg : Str → Option Value} {base : Heap} {TT : List Addr}
theorem sc_check : FnScope ["p", "rows", "columns"] ["p", "rows"] (defScope (topS 28)) := ⟨rfl, rfl, rfl, by decide +kernel, rfl, by decide +kernel, by decide +kernel⟩
def sp_check (TT : List Addr) : Sp := fun vs H Q _ => ∃ v p n m, vs = [.int p, v] ∧ isP p ∧ 1 ≤ n ∧ n ≤ 5 ∧ OkM p n m ∧ Mx H v m ∧ Tabs TT H ∧ ∀ H', Ext TT [] H H' → Q .non H'
theorem c_check (F : ∃ f fd, FunAt K mg "_check" "_check" (topS 28) f fd) (T : Bl K mg) (Cis_field : Cal P w K mg base CX0 "is_field" 1 ["p"] sp_is_field) (Cis_matrix : Cal P w K mg base CX0 "is_matrix" 5 ["value", "p", "columns"] (sp_is_matrix TT)) :
    Cal P w K mg base CX0 "_check" 6 ["p", "rows"] (sp_check TT) := by
  have SC := sc_check
  obtain ⟨tM, hM⟩ := T.most
  refine cal_of F sc_check (fun _ _ _ _ _ _ us hl => match us, hl with | [_, _], _ => rfl) (fun vs H Q E h => by obtain ⟨v, p, n, m, rfl, _⟩ := h; rfl) fun f cdv A outer s H vs Q E hr h => ?_
  obtain ⟨v, p, n, m, rfl, hp, n1, n5, ok, hv, tb, q⟩ := h
  refine ⟨_, (pss_cons (ps_if (pt_not (pt_val (pe_cal (E := E0) Cis_field hr (by decide) (by rfl) pass0 (pa_cons (pv 0) pa_nil)))) (pss_one ps_never) pss_nil)
    (pss_cons (ps_set (i := 2) SC.nd rfl (.inl rfl) pe_int)
    (pss_cons (ps_if (PW.pt (pw_and (pt_val (pe_callB call_isi (by rfl) T.nisinstance (by decide +kernel) (pa_cons (pv 1) (pa_cons (pe_bltn (v := .ty "tuple") (u := .type "tuple") (by rfl) T.ntuple (by decide +kernel) rfl) pa_nil)))) (pw_and (pt_truth (pv 1) (by intro _; rfl)) (pw_and1 (pt_val (pe_callB call_isi (by rfl) T.nisinstance (by decide +kernel) (pa_cons (pe_ix ix_tup (pv 1) pe_int (fun _ _ => rfl)) (pa_cons (pe_bltn (v := .ty "tuple") (u := .type "tuple") (by rfl) T.ntuple (by decide +kernel) rfl) pa_nil)))))))) (pss_one (ps_set (i := 2) SC.nd rfl (.inl rfl) (pe_callB call_len_seq (by rfl) T.nlen (by decide +kernel) (pa_cons (pe_ix ix_tup (pv 1) pe_int (fun _ _ => rfl)) pa_nil)))) pss_nil)
    (pss_one (ps_if (PW.pt (pw_or (pt_not (pt_chain op_le op_le pe_int (pv 2) (pe_glob (v := .int 12) (by rfl) hM ⟨_, rfl⟩))) (pw_or1 (pt_not (pt_val (pe_cal (E := E0) Cis_matrix hr (by decide) (by rfl) pass0 (pa_cons (pv 1) (pa_cons (pv 0) (pa_cons (pv 2) pa_nil))))))))) (pss_one ps_never) pss_nil))))), ?_⟩
  have hv0 := hv
  obtain ⟨a, vs, rfl, ha, pr⟩ := hv
  refine ⟨_, rfl, p, rfl, hp, true, rfl, iteF ?_⟩
  refine ⟨_, rfl, _, _, _, _, _, rfl, .ty _, (Kd.tup ha).ty, ktup (Kd.tup ha), _, rfl, iteT ?_⟩
  refine ⟨_, rfl, _, .inr (.inl ⟨vs, sqt ha, rfl⟩), ?_⟩
  cases pr with
  | nil =>
    refine iteF (iteF ?_)
    refine ⟨_, rfl, _, _, rfl, rfl, true, rfl, iteT ⟨_, _, rfl, rfl, true, rfl, iteF ?_⟩⟩
    refine ⟨_, rfl, _, rfl, _, rfl, _, p, 1, true, rfl, tb, .mx (k := 1) hv0 (fun r hr => nomatch hr), fun H' x => ⟨_, rfl, iteF (q H' x)⟩⟩
  | @cons v1 r1 vs m h1 pt =>
    obtain ⟨b, rfl, hb⟩ := h1
    have or1 := ok r1 (by simp)
    refine iteT ⟨_, rfl, _, _, _, _, rfl, rfl, sqt ha, atI_nat (j := 0) rfl, _, _, _, _, _, rfl, .ty _, (Kd.tup hb).ty, ktup (Kd.tup hb), _, rfl, iteT ?_⟩
    refine ⟨_, rfl, _, _, _, _, rfl, rfl, sqt ha, atI_nat (j := 0) rfl, b, _, rfl, .inr (sqt hb), ?_⟩
    have el : ((List.map V.int r1).length : Int) = n := by rw [List.length_map, or1.1]
    refine ⟨_, rfl, _, _, rfl, rfl, true, (congrArg V.bl (decide_eq_true (by omega))), iteT ⟨_, _, rfl, rfl, true, (congrArg V.bl (decide_eq_true (by omega))), iteF ?_⟩⟩
    refine ⟨_, rfl, _, rfl, _, rfl, _, p, n, true, (by rw [← el]; rfl), tb, .mx hv0 ok, fun H' x => ⟨_, rfl, iteF (q H' x)⟩⟩
theorem sc_first_place : FnScope ["row", "place"] ["row"] (defScope (topS 31)) := ⟨rfl, rfl, rfl, by decide +kernel, rfl, by decide +kernel, by decide +kernel⟩
def sp_first_place : Sp := fun vs H Q _ => ∃ v r, vs = [v] ∧ Rw H v r ∧ r ≠ [] ∧ r.length ≤ 1000 ∧ ∀ k : Nat, Fst r k → Q (.int k) H
theorem c_first_place (F : ∃ f fd, FunAt K mg "_first_place" "_first_place" (topS 31) f fd) (T : Bl K mg) : Cal P w K mg base CX0 "_first_place" 1 ["row"] sp_first_place := by
  have SC := sc_first_place
  refine cal_of F sc_first_place (fun _ _ _ _ _ _ us hl => match us, hl with | [_], _ => rfl) (fun vs H Q E h => by obtain ⟨v, r, rfl, _⟩ := h; rfl) fun f cdv A outer s H vs Q E hr h => ?_
  obtain ⟨v, r, rfl, ⟨a, rfl, ha⟩, hn, hz, q⟩ := h
  refine ⟨_, (pss_cons (ps_set (i := 1) SC.nd rfl (.inl rfl) pe_int)
    (pss_cons (ps_while PassesOwn.never (PW.pt (pw_and (pt_cmpR op_lt (pv 1) (pe_op op_sub (pe_callB call_len_seq (by rfl) T.nlen (by decide +kernel) (pa_cons (pv 0) pa_nil)) pe_int) (nomark _)) (pw_and1 (pt_cmpR op_eq (pe_ix ix_tup (pv 0) (pv 1) (fun _ _ => rfl)) pe_int (nomark _))))) (pss_one (ps_aug (i := 1) SC.nd rfl (.inl rfl) pe_int ip_add)))
    (pss_one (ps_ret (pv 1))))), ?_⟩
  have hl : 0 < r.length := List.length_pos_iff.mpr hn
  refine ⟨fun μ σ H' => H' = H ∧ ∃ k : Nat, μ = r.length - k ∧ σ = [some (.ref a), some (.int k)] ∧ k + 1 ≤ r.length ∧ ∀ j, j < k → g r j = 0, ⟨_, rfl, 0, rfl, rfl, hl, fun j hj => by omega⟩, ?_⟩
  rintro μ σ H' ⟨rfl, k, rfl, rfl, hk, h0⟩
  refine ⟨_, rfl, _, rfl, a, _, rfl, .inr (sqt ha), _, _, rfl, rfl, _, _, rfl, rfl, ⟨_, rfl, ite2 (fun e1 => ?_) (fun e1 => ?_)⟩⟩
  · have e2 := of_decide_eq_true e1
    rw [List.length_map] at e2
    refine ⟨_, rfl, _, rfl, _, _, _, _, rfl, rfl, sqt ha, atI_nat (K17.atI (by omega)), rfl, ⟨_, rfl, ite2 (fun e3 => ?_) (fun e3 => ?_)⟩⟩
    · have e4 : g r k = 0 := V.int.inj (of_decide_eq_true e3)
      refine ⟨fun σ H1 => H1 = H' ∧ σ = [some (.ref a), some (.int ((k + 1 : Nat) : Int))], fun σ H1 ⟨e5, e6⟩ => ⟨r.length - (k + 1), by omega, e5, k + 1, rfl, e6, by omega, fun j hj => ?_⟩, ?_⟩
      · by_cases z : j = k
        · rw [z]; exact e4
        · exact h0 j (by omega)
      · exact ⟨_, rfl, _, _, rfl, rfl, rfl, congrArg (fun z : Int => [some (V.ref a), some (V.int z)]) (show (k : Int) + 1 = ((k + 1 : Nat) : Int) by omega)⟩
    · refine ⟨_, rfl, q k ⟨hk, h0, fun _ z => e3 (decide_eq_true (congrArg V.int z))⟩⟩
  · rw [List.length_map] at e1
    refine ⟨_, rfl, q k ⟨hk, h0, fun z => absurd (decide_eq_true (by omega)) e1⟩⟩
end
end K17
end

section
set_option linter.all false
/-! the plain law, more: one column by its heads -/
namespace M17
/-- where a row is not 0 at c -/
def heads (c : Nat) (rs : List Row) (k : Nat) : List Nat := (List.range k).filter fun t => g (rs.getD t []) c != 0
theorem heads_succ (c : Nat) (rs : List Row) (k : Nat) : heads c rs (k + 1) = heads c rs k ++ (if g (rs.getD k []) c != 0 then [k] else []) := by
  unfold heads
  rw [List.range_succ, List.filter_append]
  rw [List.filter_cons, List.filter_nil]
theorem heads_len (c : Nat) (rs : List Row) (k : Nat) : (heads c rs k).length ≤ k := by
  unfold heads
  refine Nat.le_trans (List.length_filter_le _ _) (by rw [List.length_range]; exact Nat.le_refl _)
theorem heads_find (c : Nat) : ∀ (rs : List Row), (heads c rs rs.length).head? = rs.findIdx? (fun r => g r c != 0)
  | rs => by
    unfold heads
    rw [List.head?_filter]
    cases h : rs.findIdx? (fun r => g r c != 0) with
    | none =>
      rw [List.find?_eq_none]
      rw [List.findIdx?_eq_none_iff] at h
      intro t ht
      have hl : t < rs.length := List.mem_range.mp ht
      rw [List.getD_eq_getElem?_getD, List.getElem?_eq_getElem hl]
      have := h _ (List.getElem_mem hl)
      show ¬ ((g rs[t] c != 0) = true)
      rw [this]; decide
    | some k =>
      rw [List.findIdx?_eq_some_iff_getElem] at h
      obtain ⟨hk, h1, h2⟩ := h
      rw [List.find?_range_eq_some]
      refine ⟨?_, by simpa using hk, fun j hj => ?_⟩
      · rw [List.getD_eq_getElem?_getD, List.getElem?_eq_getElem hk]; exact h1
      · have hj' : j < rs.length := Nat.lt_trans hj hk
        rw [List.getD_eq_getElem?_getD, List.getElem?_eq_getElem hj']
        have := h2 j hj
        show (!(g rs[j] c != 0)) = true
        rw [Bool.not_eq_true']
        exact Bool.eq_false_iff.mpr (by simpa using this)
theorem step_none {p : Int} {c : Nat} {s : List Row × List Row} (h : heads c s.1 s.1.length = []) : step p s c = s := by
  have := heads_find c s.1
  rw [h] at this
  unfold step
  rw [← this]
  rfl
theorem step_some {p : Int} {c k : Nat} {t : List Nat} {s : List Row × List Row} (h : heads c s.1 s.1.length = k :: t) :
    k < s.1.length ∧ g (s.1.getD k []) c ≠ 0 ∧ step p s c = (elim p c (scale p (inv p (g (s.1.getD k []) c)) (s.1.getD k [])) (s.1.eraseIdx k), elim p c (scale p (inv p (g (s.1.getD k []) c)) (s.1.getD k [])) s.2 ++ [scale p (inv p (g (s.1.getD k []) c)) (s.1.getD k [])]) := by
  have e := heads_find c s.1
  rw [h] at e
  have e2 : s.1.findIdx? (fun r => g r c != 0) = some k := e.symm
  refine ⟨?_, ?_, ?_⟩
  · exact (List.findIdx?_eq_some_iff_getElem.mp e2).1
  · have : k ∈ heads c s.1 s.1.length := by rw [h]; simp
    unfold heads at this
    have := (List.mem_filter.mp this).2
    simpa using this
  · unfold step
    rw [e2]
theorem step_len (p : Int) (c : Nat) (s : List Row × List Row) : (step p s c).1.length + (step p s c).2.length = s.1.length + s.2.length := by
  cases h : heads c s.1 s.1.length with
  | nil => rw [step_none h]
  | cons k t =>
    obtain ⟨h1, h2, h3⟩ := step_some (p := p) h
    rw [h3]
    simp only [elim, List.length_map, List.length_append, List.length_singleton, List.length_eraseIdx, h1, if_true]
    omega
/-- the state at column c -/
def stAt (p : Int) (m : List Row) (c : Nat) : List Row × List Row := (List.range c).foldl (step p) (m, [])
theorem stAt_succ (p : Int) (m : List Row) (c : Nat) : stAt p m (c + 1) = step p (stAt p m c) c := by
  unfold stAt
  rw [List.range_succ, List.foldl_append]
  rfl
theorem stAt_len (p : Int) (m : List Row) : ∀ c, (stAt p m c).1.length + (stAt p m c).2.length = m.length
  | 0 => by unfold stAt; simp
  | c + 1 => by rw [stAt_succ, step_len, stAt_len p m c]
theorem stAt_ok {p : Int} {n : Nat} {m : List Row} (hp : isP p) (h : OkM p n m) {c : Nat} (hc : c ≤ n) : OkM p n (stAt p m c).1 ∧ OkM p n (stAt p m c).2 := let ⟨_, I⟩ := redS_inv hp h c hc; ⟨I.okl, I.okf⟩
theorem red_len {p : Int} {n : Nat} {m : List Row} : (red p n m).length ≤ m.length := by
  have := stAt_len p m n
  show (stAt p m n).2.length ≤ _
  omega
theorem elim_take {p : Int} {c i : Nat} {h : Row} {rs : List Row} {r : Row} (hr : rs[i]? = some r) : (elim p c h rs).take (i + 1) = (elim p c h rs).take i ++ [less p r (g r c) h] := by
  rw [List.take_add_one]
  unfold elim
  rw [List.getElem?_map, hr]
  rfl
theorem scale_take {p b : Int} {i : Nat} {r : Row} (hi : i < r.length) : (scale p b r).take (i + 1) = (scale p b r).take i ++ [(g r i * b) % p] := by
  rw [List.take_add_one]
  unfold scale
  rw [List.getElem?_map, List.getElem?_eq_getElem hi, g_of (List.getElem?_eq_getElem hi)]
  rfl
theorem getD_row {rs : List Row} {i : Nat} {r : Row} (h : rs[i]? = some r) : rs.getD i [] = r := by rw [List.getD_eq_getElem?_getD, h]; rfl
end M17
end

section
set_option linter.all false
set_option maxRecDepth 100000
set_option maxHeartbeats 2000000
namespace K17
open PySem PySem.Spec PyProof.Rows L2 G17 M17
open GxR (TabG Tabbed)
section
variable {P : Program} {w : World} {K : PySem.W.Frag} {mg : Str → Option Value} {base : Heap} {TT : List Addr}
/-- a list of rows -/
def LR (H : Hp) (v : V) (m : List M17.Row) : Prop := ∃ a vs, v = .ref a ∧ H a = some (.lst vs) ∧ Paired (Rw H) vs m
theorem paired_erase {α β : Type} {F : α → β → Prop} : ∀ {l : List α} {m : List β}, Paired F l m → ∀ k, Paired F (l.eraseIdx k) (m.eraseIdx k)
  | _, _, .nil, _ => .nil
  | _, _, .cons _ t, 0 => t
  | _, _, .cons f t, k + 1 => .cons f (paired_erase t k)
theorem sc_reduced : FnScope ["p", "rows", "left", "found", "columns", "place", "heads", "head", "back", "at", "row", "letter"] ["p", "rows"] (defScope (topS 30)) := ⟨rfl, rfl, rfl, by decide +kernel, rfl, by decide +kernel, by decide +kernel⟩
def sp_reduced (TT : List Addr) : Sp := fun vs H Q _ => ∃ v p n m, vs = [.int p, v] ∧ isP p ∧ n ≤ 1000 ∧ m ≠ [] ∧ m.length ≤ 1000 ∧ OkM p n m ∧ LR H v m ∧ ∀ H' b, Ext TT [] H H' → H b = none → LR H' (.ref b) (red p n m) → Q (.ref b) H'
/-- what holds ahead of column i -/
def RedI (TT : List Addr) (H : Hp) (p n : Int) (v : V) (m : List M17.Row) (i : Nat) (σ : L2.St) (H' : Hp) : Prop :=
  ∃ l fd y5 y6 y7 y8 vs1 vs2, σ = [some (.int p), some v, some (.ref l), some (.ref fd), some (.int n), y5, y6, y7, y8, none, none, none] ∧ H' l = some (.lst vs1) ∧ H' fd = some (.lst vs2) ∧ (l : Nat) ≠ fd ∧
    Paired (Rw H') vs1 (stAt p m i).1 ∧ Paired (Rw H') vs2 (stAt p m i).2 ∧ Ext TT [] H H' ∧ H l = none ∧ H fd = none
theorem c_reduced (F : ∃ f fd, FunAt K mg "_reduced" "_reduced" (topS 30) f fd) (T : Bl K mg) (C_less : Cal P w K mg base CX0 "_less" 1 ["p", "row", "times", "other"] (sp_less TT)) (Cinverse_of : Cal P w K mg base CX0 "inverse_of" 2 ["p", "a"] sp_inverse_of) :
    Cal P w K mg base CX0 "_reduced" 3 ["p", "rows"] (sp_reduced TT) := by
  have SC := sc_reduced
  refine cal_of F sc_reduced (fun _ _ _ _ _ _ us hl => match us, hl with | [_, _], _ => rfl) (fun vs H Q E h => by obtain ⟨v, p, n, m, rfl, _⟩ := h; rfl) fun f cdv A outer s H vs Q E hr h => ?_
  obtain ⟨v, p, n, m, rfl, hp, hn, hm, hz, ok, ⟨a, vs, rfl, ha, pr⟩, q⟩ := h
  refine ⟨_, (pss_cons (ps_set (i := 2) SC.nd rfl (.inl rfl) (pe_callTy call_list_of (by rfl) T.nlist (by decide +kernel) (pa_cons (pv 1) pa_nil)))
    (pss_cons (ps_set (i := 3) SC.nd rfl (.inl rfl) (pe_lst pa_nil))
    (pss_cons (ps_set (i := 4) SC.nd rfl (.inl rfl) (pe_ifExp (pt_truth (pv 2) (by intro _; rfl)) (pe_callB call_len_seq (by rfl) T.nlen (by decide +kernel) (pa_cons (pe_ix ix_list (pv 2) pe_int (fun _ _ => rfl)) pa_nil)) pe_int))
    (pss_cons (ps_for PassesOwn.never rfl (pi_range1 (by rfl) T.nrange (pa_cons (pv 4) pa_nil)) (pg_name (i := 5) SC.nd rfl (.inr rfl)) (pss_cons (ps_setLc (i := 6) (own := [("at", 9), ("row", 10)]) (by rfl) SC.nd rfl rfl (sw_true rfl rfl rfl (by kernel_rfl)) (pi_enum (by rfl) T.nenumerate (pa_cons (pv 2) pa_nil)) (blkOk_by (by kernel_rfl)) (by intro _ _ _ _ _; exact (pg_pair (K := K) (i := 9) (j := 10) rfl rfl SC.nd rfl rfl (.inl rfl) (.inl rfl) (by first | exact .inr rfl | exact .inl rfl) (by first | exact .inr rfl | exact .inl rfl))) (by intro _ _ _ _ _; exact (pts_one (pt_cmpR op_ne (pe_ix (ix_tupK (K := K) rfl) (pv 10) (pv 5) (fun _ _ => rfl)) pe_int (nomark _)))) (by intro _ _ _ _ _; exact (pv 9)))
      (pss_cons (ps_if (pt_not (pt_truth (pv 6) (by intro _; rfl))) (pss_one ps_continue) pss_nil)
      (pss_cons (ps_set (i := 7) SC.nd rfl (.inr rfl) (pe_bm PySem.F.plainAttrs_list PySem.F.slot_list_pop PySem.F.type_list_pop mt_popAt (pv 2) (pa_cons (pe_ix ix_list (pv 6) pe_int (fun _ _ => rfl)) pa_nil)))
      (pss_cons (ps_set (i := 8) SC.nd rfl (.inr rfl) (pe_cal (E := E0) Cinverse_of hr (by decide) (by rfl) pass0 (pa_cons (pv 0) (pa_cons (pe_ix ix_tup (pv 7) (pv 5) (fun _ _ => rfl)) pa_nil))))
      (pss_cons (ps_set (i := 7) SC.nd rfl (.inr rfl) (pe_callTy call_tuple_of (by rfl) T.ntuple (by decide +kernel) (pa_cons (pe_lc (own := [("letter", 11)]) (by rfl) SC.nd (pi_tup (pv 7)) (blkOk_by (by kernel_rfl)) (by intro _ _ _ _ _; exact (pg_name (i := 11) SC.nd rfl (.inl rfl))) (by intro _ _ _ _ _; exact pts_nil) (by intro _ _ _ _ _; exact (pe_op op_mod (pe_op op_mul (pv 11) (pv 8)) (pv 0)))) pa_nil)))
      (pss_cons (ps_setLc (i := 2) (own := [("row", 10)]) (by rfl) SC.nd rfl rfl (sw_true rfl rfl rfl (by kernel_rfl)) (pi_list (pv 2)) (blkOk_by (by kernel_rfl)) (by intro _ _ _ _ _; exact (pg_name (i := 10) SC.nd rfl (.inl rfl))) (by intro _ _ _ _ _; exact pts_nil) (by intro _ _ _ _ _; exact (pe_cal (E := E0) C_less hr (by decide) (by rfl) pass0 (pa_cons (pv 0) (pa_cons (pv 10) (pa_cons (pe_ix (ix_tupK (K := K) rfl) (pv 10) (pv 5) (fun _ _ => rfl)) (pa_cons (pv 7) pa_nil)))))))
      (pss_cons (ps_setLc (i := 3) (own := [("row", 10)]) (by rfl) SC.nd rfl rfl (sw_true rfl rfl rfl (by kernel_rfl)) (pi_list (pv 3)) (blkOk_by (by kernel_rfl)) (by intro _ _ _ _ _; exact (pg_name (i := 10) SC.nd rfl (.inl rfl))) (by intro _ _ _ _ _; exact pts_nil) (by intro _ _ _ _ _; exact (pe_cal (E := E0) C_less hr (by decide) (by rfl) pass0 (pa_cons (pv 0) (pa_cons (pv 10) (pa_cons (pe_ix (ix_tupK (K := K) rfl) (pv 10) (pv 5) (fun _ _ => rfl)) (pa_cons (pv 7) pa_nil)))))))
      (pss_one (ps_expr (pe_bm PySem.F.plainAttrs_list PySem.F.slot_list_append PySem.F.type_list_append mt_append (pv 3) (pa_cons (pv 7) pa_nil))))))))))))
    (pss_one (ps_ret (pv 3))))))), ?_⟩
  have p5 := hp.five
  have p2 := hp.two
  refine ⟨_, rfl, a, vs, rfl, .inl (sql ha), fun l hl => ?_⟩
  refine ⟨Nat.zero_le _, fun fd hfd => ?_⟩
  have nlf : (l : Nat) ≠ fd := fun z => by rw [← show l = fd from z, upd_same] at hfd; cases hfd
  have hfd0 : H fd = none := by rw [upd_ne (fun z => nlf z.symm)] at hfd; exact hfd
  have x1 : Ext TT [] H (upd H l (.lst vs)) := .new hl
  have x2 : Ext TT [] H (upd (upd H l (.lst vs)) fd (.lst [])) := x1.trans (.new hfd)
  have hl2 : upd (upd H l (.lst vs)) fd (.lst []) l = some (.lst vs) := by rw [upd_ne nlf, upd_same]
  have start : ∀ y4, y4 = some (V.int n) → RedI TT H p n (.ref a) m 0 [some (.int p), some (.ref a), some (.ref l), some (.ref fd), y4, none, none, none, none, none, none, none] (upd (upd H l (.lst vs)) fd (.lst [])) := fun y4 e =>
    ⟨l, fd, none, none, none, none, vs, [], by rw [e], hl2, upd_same, nlf, L2.Paired.mapP pr fun _ _ r => r.mono x2, .nil, x2, hl, hfd0⟩
  obtain ⟨r0, m', rfl⟩ : ∃ r0 m', m = r0 :: m' := List.exists_cons_of_ne_nil hm
  generalize hmm : r0 :: m' = m at *
  cases pr with
  | nil => exact absurd rfl hm
  | @cons v0 r1 vs' m1 hv0 pr' =>
  have er : r1 = r0 ∧ m1 = m' := by cases hmm; exact ⟨rfl, rfl⟩
  obtain ⟨rfl, rfl⟩ := er
  have or1 := ok r1 (by simp)
  obtain ⟨b0, rfl, hb0⟩ := hv0
  have hb02 := x2.tup _ _ hb0
  refine ⟨_, rfl, true, .inl ⟨_, sql hl2, rfl⟩, iteT ?_⟩
  refine ⟨_, rfl, _, _, _, _, rfl, rfl, sql hl2, atI_nat (j := 0) rfl, b0, _, rfl, .inr (sqt hb02), ?_⟩
  have en : ((List.map V.int r1).length : Int) = n := by rw [List.length_map, or1.1]
  refine ⟨_, rfl, n, by rw [en], by omega, by omega, for_range (lo := 0) (n := n) (RedI TT H p n (.ref a) (r1 :: m1)) (start _ ?_) ?_ ?_⟩
  · rw [en]
  · rintro i σ H3 hi ⟨l3, f3, y5, y6, y7, y8, vs1, vs2, rfl, hl3, hf3, nlf3, pr1, pr2, x3, nl, nf⟩
    obtain ⟨ok1, ok2⟩ := stAt_ok hp ok (c := i) (by omega)
    have hlen := stAt_len p (r1 :: m1) i
    have hsucc := stAt_succ p (r1 :: m1) i
    generalize hS : stAt p (r1 :: m1) i = S at *
    have l1 := pr1.length
    have l2 := pr2.length
    rw [Int.zero_add]
    refine ⟨_, rfl, l3, vs1, rfl, sql hl3, fun D hD => lc_it walk_enum (LP TT [] D H3 RI fun k => (heads i S.1 k).map Int.ofNat) (.start rfl hD) (fun k H4 _ lp => sql (lp.ext.lst hl3)) ?_ ?_⟩
    · rintro k x H4 H5 hk lp ⟨A, y1, y2, rfl, hA, rfl, e1, e2⟩
      cases e1
      obtain ⟨r, hr', ⟨b, rfl, hb⟩⟩ := paired_get pr1 e2
      have orr := ok1 r (List.mem_of_getElem? hr')
      have xa : Ext TT [] H4 (upd H4 A (.tup [.int (k : Nat), .ref b])) := .new hA
      have hb5 := xa.tup _ _ (lp.ext.tup _ _ hb)
      refine ⟨A, _, rfl, sqt upd_same, rfl, _, _, rfl, _, _, rfl, rfl, rfl, _, rfl, _, rfl, b, _, _, _, rfl, rfl, sqt hb5, atI_nat (K17.atI (by rw [orr.1]; exact hi)), rfl, _, rfl, ite2 (fun e => ?_) (fun e => ?_)⟩
      · have e2 : g r i ≠ 0 := fun z => by rw [z] at e; exact absurd e (by decide)
        refine ⟨_, rfl, lp.pushI (b := (k : Nat)) hD (by simp) xa ?_ ?_⟩
        · show (heads i S.1 (k + 1)).map Int.ofNat = _
          rw [heads_succ, getD_row hr', if_pos (by simpa using e2), List.map_append]
          rfl
        · show ((heads i S.1 k).map Int.ofNat).length < sizeLine
          rw [List.length_map]
          have := heads_len i S.1 k
          exact lz1000 (by omega)
      · have e2 : g r i = 0 := Classical.byContradiction fun z => e (by rw [Bool.not_eq_true', decide_eq_false_iff_not]; exact fun y => z (V.int.inj y))
        refine lp.skip stayI (by simp) xa ?_
        show (heads i S.1 (k + 1)).map Int.ofNat = (heads i S.1 k).map Int.ofNat
        rw [heads_succ, getD_row hr', if_neg (by simp [e2]), List.append_nil]
    · intro H4 lp
      have hI := lp.ints
      have x4 := lp.ext
      rw [l1] at hI
      refine ⟨_, rfl, _, .inl ⟨_, sql hI, rfl⟩, ?_⟩
      cases hh : heads i S.1 S.1.length with
      | nil =>
        refine iteT ?_
        refine ⟨l3, f3, some (.int i), some (.ref D), y7, y8, vs1, vs2, rfl, x4.lst hl3, x4.lst hf3, nlf3, ?_, ?_, x3.trans x4, nl, nf⟩
        · rw [hsucc, step_none hh]
          exact L2.Paired.mapP pr1 fun _ _ r => r.mono x4
        · rw [hsucc, step_none hh]
          exact L2.Paired.mapP pr2 fun _ _ r => r.mono x4
      | cons k t =>
        refine iteF ?_
        obtain ⟨hk, hne, hstep⟩ := step_some (p := p) hh
        rw [hh] at hI
        obtain ⟨r, hr'⟩ : ∃ r, S.1[k]? = some r := ⟨_, List.getElem?_eq_getElem hk⟩
        obtain ⟨y, hy, ⟨b, rfl, hb⟩⟩ := paired_get' pr1 hr'
        have orr := ok1 r (List.mem_of_getElem? hr')
        rw [getD_row hr'] at hne hstep
        have hl4 := x4.lst hl3
        refine ⟨_, rfl, .inl ⟨rfl, _, sql hl4⟩, _, rfl, D, _, _, _, rfl, rfl, sql hI, atI_nat (j := 0) rfl, l3, vs1, (k : Int), k, .ref b, rfl, rfl, hl4, by omega, by omega, seqNat (by omega), hy, ?_⟩
        have x5 : Ext TT [] H (upd H4 l3 (.lst (vs1.eraseIdx k))) := (x3.trans x4).mut nl
        have u5 : ∀ b xs, H4 b = some (.tup xs) → upd H4 l3 (.lst (vs1.eraseIdx k)) b = some (.tup xs) := fun b xs hb => tup_upd hl4 (fun xs z => by cases z) hb
        have hb5 := u5 _ _ (x4.tup _ _ hb)
        have gr := g_ok (by omega) orr i
        refine ⟨_, rfl, _, rfl, _, rfl, b, _, _, _, rfl, rfl, sqt hb5, atI_nat (K17.atI (by rw [orr.1]; exact hi)), p, g r i, rfl, hp, by omega, gr.2, ?_⟩
        refine ⟨_, rfl, b, rfl, ⟨_, sqt hb5⟩, fun D2 hD2 => lc_tup (LP TT [] D2 _ RI fun j => (scale p (inv p (g r i)) r).take j) (.start rfl hD2) (fun j H6 _ lp6 => sqt (lp6.ext.tup _ _ hb5)) ?_ ?_⟩
        · intro j x H6 hx lp6
          obtain ⟨rfl, hj⟩ := getI hx
          have gj := g_ok (by omega) orr j
          refine ⟨rfl, yes ⟨_, rfl, _, rfl, _, _, rfl, rfl, .inl (show -(2 ^ 64) < g r j ∧ g r j < 2 ^ 64 by omega), _, rfl, _, _, rfl, rfl, (show (0 : Int) < p by omega), ?_⟩⟩
          exact lp6.pushI hD2 (by simp) (.refl _) (scale_take hj) (lz1000 (by have := orr.1; rw [List.length_take]; omega))
        · intro H6 lp6
          have hI6 := lp6.ints
          rw [List.take_of_length_le (by unfold scale; rw [List.length_map, List.length_map]; exact Nat.le_refl _)] at hI6
          have ohd : OkR p n (scale p (inv p (g r i)) r) := ok_scale (by omega) orr
          generalize hhd : scale p (inv p (g r i)) r = hd at *
          refine ⟨D2, _, rfl, .inl ⟨sql hI6, fun e he => ?_⟩⟩
          have x56 : Ext TT [] _ (upd H6 e (.tup (hd.map V.int))) := lp6.ext.trans (.new he)
          generalize hH7 : upd H6 e (.tup (hd.map V.int)) = H7 at *
          have he7 : H7 e = some (.tup (hd.map V.int)) := by rw [← hH7]; exact upd_same
          have x7 := x5.trans x56
          have u7 : ∀ b xs, H3 b = some (.tup xs) → H7 b = some (.tup xs) := fun b xs hb => x56.tup _ _ (u5 _ _ (x4.tup _ _ hb))
          have hl7 : H7 l3 = some (.lst (vs1.eraseIdx k)) := x56.lst upd_same
          have hf7 : H7 f3 = some (.lst vs2) := x56.lst (by rw [upd_ne (fun z => nlf3 z.symm)]; exact x4.lst hf3)
          have pr17 : Paired (Rw H7) (vs1.eraseIdx k) (S.1.eraseIdx k) := paired_erase (L2.Paired.mapP pr1 fun _ _ ⟨b, e, hb⟩ => ⟨b, e, u7 _ _ hb⟩) k
          have pr27 : Paired (Rw H7) vs2 S.2 := L2.Paired.mapP pr2 fun _ _ ⟨b, e, hb⟩ => ⟨b, e, u7 _ _ hb⟩
          have rowOk : ∀ r' ∈ S.1.eraseIdx k, OkR p n r' := fun r' h' => ok1 r' (List.mem_of_mem_eraseIdx h')
          refine ⟨_, rfl, l3, rfl, ⟨_, sql hl7⟩, fun D3 hD3 => lc_list (LP TT [] D3 H7 Rw fun j => (elim p i hd (S.1.eraseIdx k)).take j) (.start rfl hD3) (fun j H8 _ lp8 => sql (lp8.ext.lst hl7)) ?_ ?_⟩
          · intro j x H8 hx lp8
            obtain ⟨r', hr8, hrw⟩ := paired_get pr17 hx
            have or8 := rowOk r' (List.mem_of_getElem? hr8)
            have hrw8 := hrw.mono lp8.ext
            obtain ⟨b8, rfl, hb8⟩ := hrw
            have gr8 := g_ok (by omega) or8 i
            refine ⟨rfl, yes ⟨_, rfl, _, rfl, _, rfl, _, rfl, b8, _, _, _, rfl, rfl, sqt (lp8.ext.tup _ _ hb8), atI_nat (K17.atI (by rw [or8.1]; exact hi)), _, rfl, .ref b8, .ref e, p, g r' i, n, r', hd, rfl, hp, hn, or8, ohd, gr8, hrw8, ⟨e, rfl, lp8.ext.tup _ _ he7⟩, fun H9 y9 x9 hy9 => ?_⟩⟩
            refine lp8.pushR hD3 (by simp) x9 hy9 (elim_take hr8) (lz1000 ?_)
            have := (List.getElem?_eq_some_iff.mp hx).1
            rw [List.length_eraseIdx] at this
            rw [List.length_take]
            split at this <;> omega
          · intro H8 lp8
            have x8 := lp8.ext
            have hf8 := x8.lst hf7
            have hD3H := x7.dom _ hD3
            obtain ⟨ws1, hw1, pw1, _⟩ := lp8
            refine ⟨_, rfl, f3, rfl, ⟨_, sql hf8⟩, fun D4 hD4 => lc_list (LP TT [] D4 H8 Rw fun j => (elim p i hd S.2).take j) (.start rfl hD4) (fun j H9 _ lp9 => sql (lp9.ext.lst hf8)) ?_ ?_⟩
            · intro j x H9 hx lp9
              obtain ⟨r', hr9, hrw⟩ := paired_get pr27 hx
              have or9 := ok2 r' (List.mem_of_getElem? hr9)
              have x89 := x8.trans lp9.ext
              have hrw9 := hrw.mono x89
              obtain ⟨b9, rfl, hb9⟩ := hrw
              have gr9 := g_ok (by omega) or9 i
              refine ⟨rfl, yes ⟨_, rfl, _, rfl, _, rfl, _, rfl, b9, _, _, _, rfl, rfl, sqt (x89.tup _ _ hb9), atI_nat (K17.atI (by rw [or9.1]; exact hi)), _, rfl, .ref b9, .ref e, p, g r' i, n, r', hd, rfl, hp, hn, or9, ohd, gr9, hrw9, ⟨e, rfl, x89.tup _ _ he7⟩, fun H10 y10 x10 hy10 => ?_⟩⟩
              refine lp9.pushR hD4 (by simp) x10 hy10 (elim_take hr9) (lz1000 ?_)
              have := (List.getElem?_eq_some_iff.mp hx).1
              rw [List.length_take]
              omega
            · intro H9 lp9
              have x9 := lp9.ext
              have hD4H := (x7.trans x8).dom _ hD4
              have n34 : (D3 : Nat) ≠ D4 := fun z => by rw [show D3 = D4 from z, hD4] at hw1; cases hw1
              obtain ⟨ws2, hw2, pw2, _⟩ := lp9
              have t1 : (elim p i hd (S.1.eraseIdx k)).take (vs1.eraseIdx k).length = elim p i hd (S.1.eraseIdx k) := List.take_of_length_le (by unfold elim; rw [List.length_map, pr17.length]; exact Nat.le_refl _)
              have t2 : (elim p i hd S.2).take vs2.length = elim p i hd S.2 := List.take_of_length_le (by unfold elim; rw [List.length_map]; omega)
              simp only [t1] at pw1
              simp only [t2] at pw2
              have lw2 := pw2.length
              refine ⟨_, rfl, .inl ⟨rfl, _, sql hw2⟩, _, rfl, D4, ws2, _, rfl, rfl, hw2, lz1000 (by unfold elim at lw2; rw [List.length_map] at lw2; omega), ?_⟩
              have x10 : Ext TT [] H (upd H9 D4 (.lst (ws2 ++ [.ref e]))) := ((x7.trans x8).trans x9).mut hD4H
              have u10 : ∀ b xs, H9 b = some (.tup xs) → upd H9 D4 (.lst (ws2 ++ [.ref e])) b = some (.tup xs) := fun b xs hb => tup_upd hw2 (fun xs z => by cases z) hb
              refine ⟨D3, D4, some (.int i), some (.ref D), some (.ref e), some (.int (inv p (g r i))), ws1, _, rfl, ?_, upd_same, n34, ?_, ?_, x10, hD3H, hD4H⟩
              · rw [upd_ne n34]; exact x9.lst hw1
              · rw [hsucc, hstep]
                exact L2.Paired.mapP pw1 fun _ _ ⟨b, e, hb⟩ => ⟨b, e, u10 _ _ (x9.tup _ _ hb)⟩
              · rw [hsucc, hstep]
                exact paired_append (L2.Paired.mapP pw2 fun _ _ ⟨b, e, hb⟩ => ⟨b, e, u10 _ _ hb⟩) (.cons ⟨e, rfl, u10 _ _ ((x8.trans x9).tup _ _ he7)⟩ .nil)
  · rintro σ H3 ⟨l3, f3, y5, y6, y7, y8, vs1, vs2, rfl, hl3, hf3, nlf3, pr1, pr2, x3, nl, nf⟩
    exact ⟨_, rfl, q H3 _ x3 nf ⟨f3, vs2, rfl, hf3, pr2⟩⟩
end
end K17
end

section
set_option linter.all false
set_option maxRecDepth 100000
set_option maxHeartbeats 2000000
/-! the errors of the text: made, told of, asked -/
namespace K17
open PySem PySem.Spec PyProof.Rows L2 G17 M17
open GxR (TabG Tabbed)
/-- the first statement of a class -/
def methS (i : Nat) : Stmt := match topS i with
  | .ClassDef _ _ _ body _ _ _ _ _ _ _ => body.getD 0 (.Pass ⟨0, 0, 0, 0⟩)
  | _ => .Pass ⟨0, 0, 0, 0⟩
/-- an error class of the text, its one field, its __init__ -/
structure EC (K : PySem.W.Frag) (mg : Str → Option Value) (nm q fld : Str) (st : Stmt) (C : Addr) : Prop where
  g : mg nm = some (.ref C)
  T : OexC K C
  nf : PySem.W.findIn K (.ref C) fld = some none
  xf : XfC K C
  is : ExcC K C
  sub : PySem.W.subIn K (.ref C) (.ref C) = some true
  ini : ∃ fI fd, PySem.W.findIn K (.ref C) "__init__" = some (some (.ref fI)) ∧ PySem.W.typeIn K (.ref fI) = some (.type "function") ∧ FunD K "__init__" q (defArgs st) (defBody st) (defScope st) [] [] fI fd
/-- self.f = v, of an error that is being made -/
def sp_ini (K : PySem.W.Frag) (f : Str) (C : Addr) : Sp := fun vs H Q _ => ∃ a v, vs = [.ref a, v] ∧ OexC K C ∧ PySem.W.findIn K (.ref C) f = some none ∧ H a = some (exo a C none) ∧
  ∀ dx, H dx = none → dx ≠ a → Q .non (upd (upd H dx (exd dx [(f, v)])) a (exo a C (some dx)))
section
variable {P : Program} {w : World} {K : PySem.W.Frag} {mg : Str → Option Value} {base : Heap} {fld : Str} {C : Addr}
theorem made {H1 : Hp} {Q : XK} {v : V} (T : OexC K C) (nf : PySem.W.findIn K (.ref C) fld = some none) (h : ∀ d, H1 d = none → Q (.ref C) (some d) (upd H1 d (.xd [(fld, v)]))) :
    [v].length ≤ 1000 ∧ ∀ a, H1 a = none → sp_ini K fld C (.ref a :: ([v] ++ [])) (upd H1 a (exo a C none))
      (fun v H2 => v = .non ∧ ∃ (d : Addr) (fs : List (Str × V)), H2 a = some (exo a C (some d)) ∧ H2 d = some (exd d fs) ∧ H1 d = none ∧ Q (.ref C) (some d) (upd (del H2 a) d (.xd fs))) (fun _ _ _ => False) := by
  refine ⟨by show 1 ≤ 1000; decide, fun a ha => ⟨a, v, rfl, T, nf, upd_same, fun dx hdx hne => ?_⟩⟩
  have hd1 : H1 dx = none := by rw [upd_ne hne] at hdx; exact hdx
  refine ⟨rfl, dx, _, upd_same, by rw [upd_ne hne, upd_same], hd1, ?_⟩
  have e : upd (del (upd (upd (upd H1 a (exo a C none)) dx (exd dx [(fld, v)])) a (exo a C (some dx))) a) dx (.xd [(fld, v)]) = upd H1 dx (.xd [(fld, v)]) := by
    funext b
    by_cases hb : b = dx
    · rw [hb, upd_same, upd_same]
    · rw [upd_ne hb, upd_ne hb]
      by_cases hb2 : b = a
      · rw [hb2, del_same, ha]
      · rw [del_ne hb2, upd_ne hb2, upd_ne hb, upd_ne hb2]
  rw [e]
  exact h dx hd1
end
section
variable {P : Program} {w : World} {K : PySem.W.Frag} {mg : Str → Option Value} {base : Heap} {C fI : Addr} {fd : FuncData}
theorem sc_iInvalidNumber : FnScope ["self", "value"] ["self", "value"] (defScope (methS 3)) := ⟨rfl, rfl, rfl, by decide +kernel, rfl, by decide +kernel, by decide +kernel⟩
theorem iniInvalidNumber (F : FunD K "__init__" "InvalidNumber.__init__" (defArgs (methS 3)) (defBody (methS 3)) (defScope (methS 3)) [] [] fI fd) : FnOk P w K mg base CX0 1 fI fd ["self", "value"] (sp_ini K "value" C) := by
  refine F.ok sc_iInvalidNumber (fun vs H Q E h => by obtain ⟨a, v, rfl, _⟩ := h; rfl) fun cdv A outer s H vs Q E hr h => ?_
  obtain ⟨a, v, rfl, T, nf, ha, q⟩ := h
  exact ⟨_, pss_one (ps_ost (pv 0) (pv 1)), _, rfl, _, rfl, a, C, rfl, T, nf, .inl ⟨ha, q⟩⟩
theorem iniHInvalidNumber (F : FunD K "__init__" "InvalidNumber.__init__" (defArgs (methS 3)) (defBody (methS 3)) (defScope (methS 3)) [] [] fI fd) : L2H.FnH P w K mg base CX0 1 fI fd ["self", "value"] (sp_ini K "value" C) := by
  obtain ⟨oc, od, dV, kV, doc, pm, an, cdv, ct, osl, rfl, lk, hcd, _, _⟩ := F.ex
  refine L2H.fn_ofH lk hcd sc_iInvalidNumber (fun vs H Q E h => by obtain ⟨a, v, rfl, _⟩ := h; rfl) fun A outer s H vs Q E p hot hr h => ?_
  obtain ⟨a, v, rfl, T, nf, ha, q⟩ := h
  exact ⟨_, pss_one (ps_ost (pv 0) (pv 1)), _, rfl, _, rfl, a, C, rfl, T, nf, .inl ⟨ha, q⟩⟩
theorem biInvalidNumber (F : FunD K "__init__" "InvalidNumber.__init__" (defArgs (methS 3)) (defBody (methS 3)) (defScope (methS 3)) [] [] fI fd) : Binds K fd ["self", "value"] [] := F.bindsN fun _ _ _ _ _ _ us hl => match us, hl with | [_, _], _ => rfl
end
section
variable {P : Program} {w : World} {K : PySem.W.Frag} {mg : Str → Option Value} {base : Heap} {C fI : Addr} {fd : FuncData}
theorem sc_iInvalidMatrix : FnScope ["self", "value"] ["self", "value"] (defScope (methS 4)) := ⟨rfl, rfl, rfl, by decide +kernel, rfl, by decide +kernel, by decide +kernel⟩
theorem iniInvalidMatrix (F : FunD K "__init__" "InvalidMatrix.__init__" (defArgs (methS 4)) (defBody (methS 4)) (defScope (methS 4)) [] [] fI fd) : FnOk P w K mg base CX0 1 fI fd ["self", "value"] (sp_ini K "value" C) := by
  refine F.ok sc_iInvalidMatrix (fun vs H Q E h => by obtain ⟨a, v, rfl, _⟩ := h; rfl) fun cdv A outer s H vs Q E hr h => ?_
  obtain ⟨a, v, rfl, T, nf, ha, q⟩ := h
  exact ⟨_, pss_one (ps_ost (pv 0) (pv 1)), _, rfl, _, rfl, a, C, rfl, T, nf, .inl ⟨ha, q⟩⟩
theorem iniHInvalidMatrix (F : FunD K "__init__" "InvalidMatrix.__init__" (defArgs (methS 4)) (defBody (methS 4)) (defScope (methS 4)) [] [] fI fd) : L2H.FnH P w K mg base CX0 1 fI fd ["self", "value"] (sp_ini K "value" C) := by
  obtain ⟨oc, od, dV, kV, doc, pm, an, cdv, ct, osl, rfl, lk, hcd, _, _⟩ := F.ex
  refine L2H.fn_ofH lk hcd sc_iInvalidMatrix (fun vs H Q E h => by obtain ⟨a, v, rfl, _⟩ := h; rfl) fun A outer s H vs Q E p hot hr h => ?_
  obtain ⟨a, v, rfl, T, nf, ha, q⟩ := h
  exact ⟨_, pss_one (ps_ost (pv 0) (pv 1)), _, rfl, _, rfl, a, C, rfl, T, nf, .inl ⟨ha, q⟩⟩
theorem biInvalidMatrix (F : FunD K "__init__" "InvalidMatrix.__init__" (defArgs (methS 4)) (defBody (methS 4)) (defScope (methS 4)) [] [] fI fd) : Binds K fd ["self", "value"] [] := F.bindsN fun _ _ _ _ _ _ us hl => match us, hl with | [_, _], _ => rfl
end
section
variable {P : Program} {w : World} {K : PySem.W.Frag} {mg : Str → Option Value} {base : Heap} {C fI : Addr} {fd : FuncData}
theorem sc_iUndefined : FnScope ["self", "what"] ["self", "what"] (defScope (methS 17)) := ⟨rfl, rfl, rfl, by decide +kernel, rfl, by decide +kernel, by decide +kernel⟩
theorem iniUndefined (F : FunD K "__init__" "Undefined.__init__" (defArgs (methS 17)) (defBody (methS 17)) (defScope (methS 17)) [] [] fI fd) : FnOk P w K mg base CX0 1 fI fd ["self", "what"] (sp_ini K "what" C) := by
  refine F.ok sc_iUndefined (fun vs H Q E h => by obtain ⟨a, v, rfl, _⟩ := h; rfl) fun cdv A outer s H vs Q E hr h => ?_
  obtain ⟨a, v, rfl, T, nf, ha, q⟩ := h
  exact ⟨_, pss_one (ps_ost (pv 0) (pv 1)), _, rfl, _, rfl, a, C, rfl, T, nf, .inl ⟨ha, q⟩⟩
theorem iniHUndefined (F : FunD K "__init__" "Undefined.__init__" (defArgs (methS 17)) (defBody (methS 17)) (defScope (methS 17)) [] [] fI fd) : L2H.FnH P w K mg base CX0 1 fI fd ["self", "what"] (sp_ini K "what" C) := by
  obtain ⟨oc, od, dV, kV, doc, pm, an, cdv, ct, osl, rfl, lk, hcd, _, _⟩ := F.ex
  refine L2H.fn_ofH lk hcd sc_iUndefined (fun vs H Q E h => by obtain ⟨a, v, rfl, _⟩ := h; rfl) fun A outer s H vs Q E p hot hr h => ?_
  obtain ⟨a, v, rfl, T, nf, ha, q⟩ := h
  exact ⟨_, pss_one (ps_ost (pv 0) (pv 1)), _, rfl, _, rfl, a, C, rfl, T, nf, .inl ⟨ha, q⟩⟩
theorem biUndefined (F : FunD K "__init__" "Undefined.__init__" (defArgs (methS 17)) (defBody (methS 17)) (defScope (methS 17)) [] [] fI fd) : Binds K fd ["self", "what"] [] := F.bindsN fun _ _ _ _ _ _ us hl => match us, hl with | [_, _], _ => rfl
end
section
variable {X : Cx} {x : Str} {e : Expr} {es : List Expr} {ta : TA} {p pos : Pos} {C fI : Addr} {k : Nat} {fd : FuncData} {ps : List Str} {sp : Sp}
/-- C(e, ..), nothing handled: its context is none -/
theorem pmkN (T : OexC X.K C) (iC : PySem.W.findIn X.K (.ref C) "__init__" = some (some (.ref fI))) (tI : PySem.W.typeIn X.K (.ref fI) = some (.type "function")) (F1 : FnOk X.prog X.w X.K X.mg X.base CX0 k fI fd ps sp)
    (hr : Room (k + 1) X.A) (hb : Binds X.K fd ps []) (hg : Gl X x) (hm : X.mg x = some (.ref C)) (ha : PA X (e :: es) ta) (hdb : (x == ("__debug__" : Str)) = false := by decide)
    (he : starEach (e :: es) X.env = (false, eval e X.env) :: starEach es X.env := by rfl) (hpl : (backTo pos (starEach es X.env)).any (·.1) = false := by rfl) : L2N.PMk X (.Call (.Name x p) (e :: es) [] pos) (tMkO C sp [] ta) := by
  intro pins s σ H Q I h
  obtain ⟨n0, n1, n2, n3, n4, n5, n6, n7, n8, n9, k0, k1, k2, k3, k5, hC, hbm⟩ := T.cls
  refine wpAny_Call_Name_kw (ld_glob I hg hm ?_ hdb)
  refine PySem.W.callWith_K (h₀ := X.base) I.ok.mod.kin T.kC (thn (ha.run pos pins s σ H _ I h) fun vs1 s1 ⟨vs, H1, I1, r1, hz, q1⟩ => ⟨I1.kIn, ?_⟩) he hpl
  show wpAny _ _ (call (.ref C) vs1) _ _ _
  obtain ⟨hp, g, dr, tk, os⟩ := s1
  have sz : hp.objs.size ≤ hp.objs.size + 1 := Nat.le_succ _
  have fr : H1 (hp.objs.size + 1) = none := I1.hok.fresh sz
  have q2 := q1 (hp.objs.size + 1) fr
  have kp : ∀ b o, hp.get? b = some o → ((hp.push (PySem.W.kdv_tup vs1)).push (PySem.HandSPX.excO C hp.objs.size)).get? b = some o :=
    fun b o z => Heap.get?_push_of_some _ (Heap.get?_push_of_some _ z)
  have at1 : ((hp.push (PySem.W.kdv_tup vs1)).push (PySem.HandSPX.excO C hp.objs.size)).get? (hp.objs.size + 1) = some (PySem.HandSPX.excO C hp.objs.size) := by heap_get
  have I2 : Inv X pins σ (upd H1 (hp.objs.size + 1) (exo (hp.objs.size + 1) C none)) ⟨(hp.push (PySem.W.kdv_tup vs1)).push (PySem.HandSPX.excO C hp.objs.size), g, dr, tk, os⟩ :=
    I1.laid (t' := tk) (a := hp.objs.size + 1) (o := exo (hp.objs.size + 1) C none) (h' := (hp.push (PySem.W.kdv_tup vs1)).push (PySem.HandSPX.excO C hp.objs.size)) kp sz (exo_ok at1)
  have r2 : Vals (V.ref (hp.objs.size + 1) :: (vs ++ [])) (Value.ref (hp.objs.size + 1) :: (vs1 ++ [])) := .cons rfl (r1.append .nil)
  have ln : (Value.ref (hp.objs.size + 1) :: vs1 ++ []).length = ps.length := (r2.length.symm.trans (F1.len _ _ _ _ q2))
  have lv : vs1.length ≤ sizeLine := by
    have := Paired.length r1
    rw [← this, sizeLine_eq]; omega
  refine wpAny_call (PySem.HandSPX.call_own F.excBase_ValueError (fun Y => PySem.HandSPX.refsVE_contains Y n4 hbm) (I1.kIn _ _ hC) (PySem.W.looks_findIn I1.kIn iC) (fun self => PySem.W.bind_fn I1.kIn self tI) lv
    (codeAny_mono (F1.run _ X.stack _ _ ⟨Value.ref (hp.objs.size + 1) :: vs1, []⟩ (Value.ref (hp.objs.size + 1) :: (vs1 ++ [])) _ _ (fun _ _ _ => False) (hr.make C vs1 []) (I2.env0.make C vs1 []) (show BindsTo _ fd ⟨Value.ref (hp.objs.size + 1) :: vs1, []⟩ (ps.zip (Value.ref (hp.objs.size + 1) :: (vs1 ++ []))) from hb _ (Value.ref (hp.objs.size + 1) :: vs1) I2.kIn ln) r2 q2) fun r s2 q3 => ?_))
  cases r with
  | error er => exact q3.elim
  | ok fl =>
    cases fl with
    | ret u =>
      obtain ⟨v, H2, os2, bare2, un2, hok2, rv, ev, d, fs, ea, ed, hd1, q4⟩ := q3
      subst ev
      obtain ⟨h2, g2, d2, t2, os3⟩ := s2
      obtain ⟨t0, G, J, kG, ge, ho, na⟩ := mk_end0 (d2 := d2) (t2 := t2) I1 sz kp un2 hok2 os2 bare2 ea ed hd1
      exact ⟨rv, hp.objs.size + 1, _, _, ⟨G, g2, d2, t2, os3⟩, _, .ref C, some d, rfl, J, kG, ge, ho, ⟨rfl, rfl, fun ws z => by cases z; rfl⟩, rfl, rfl, na, rfl, bare2, raises_own T.exC T.tyC, q4⟩
    | next => exact q3.elim
    | brk => exact q3.elim
    | cont => exact q3.elim
/-- the handled exception's object p stands in the context -/
def PinC (X : Cx) (p : Addr × Obj) : Prop := X.A.handled = some (.ref p.1) ∧ p ∈ X.pn
/-- isinstance(e, c) of the handled exception, its dict at dd -/
def rIsP (K : PySem.W.Frag) (D a dd : Addr) : List V → Hp → VK → Prop := fun xs H Q => ∃ (c : V) (cv : Value) (b : Bool) (fs : List (Str × V)), xs = [.ref a, c] ∧ (∀ u, RelV c u → u = cv) ∧ PySem.W.kitOne K (.ref D) cv = some b ∧ H dd = some (.xd fs) ∧ Q (.bl b) H
theorem call_isP {D dd : Addr} {q : Addr × Obj} (T : ExcC X.K D) (hp : q ∈ X.pn) (hz : Zc (.ref D) (some dd) q.2) (hf : ∃ vs, q.2.data = .fields vs) : CallR X (.builtin "isinstance") (rIsP X.K D q.1 dd) := by
  intro pins s σ H xs us Q I r h
  obtain ⟨c, cv, b, fs, rfl, hcv, e, hdd, qq⟩ := h
  obtain ⟨u1, u2, rfl, r1, r2⟩ := vals2 r
  cases hcv _ r2
  cases r1
  have hget := (I.pin q (List.mem_append.mpr (.inl hp))).1
  obtain ⟨ws, hv⟩ := hf
  have hx : ObjOk X.prog X.w H s.heap dd (.xd fs) := I.hok dd _ hdd
  obtain ⟨mA, hns, _⟩ := hx
  obtain ⟨od, ho, _⟩ := lookIn_ns hns
  have J : PySem.W.InstAt s.heap q.1 q.2 D (some od) := ⟨hget, hz.1, by unfold PySem.W.notCls; rw [hv] <;> rfl, by rw [hz.2]; exact ho⟩
  have hcl : (PySem.W.clsIn X.K D).isSome = true := by
    obtain ⟨cd, hc, _⟩ := PySem.W.any_some T.hd
    rw [hc]; rfl
  exact PySem.W.kia_one (PySem.W.kitx_exc (od := some od) hcl T.hg T.hk T.hs T.ha T.hn T.ht T.hm) I.kIn J e (fun z => nomatch z) fun tk => ⟨.bl b, H, I.kept (t' := tk) fun _ _ z => z, rfl, qq⟩
end
/-- what a def promises that is called while p's object is handled -/
structure FnP (P : Program) (w : World) (K : PySem.W.Frag) (mg : Str → Option Value) (base : Heap) (CX : CXT) (k : Nat) (f : Addr) (fd : FuncData) (ps : List Str) (sp : Addr × Obj → Sp) : Prop where
  len : ∀ q vs H Q E, sp q vs H Q E → vs.length = ps.length
  run : ∀ (A : Around) (outer : List Env) (s : Shared) (H : Hp) (args : Args) (us : List Value) (vs : List V) (Q : VK) (E : XK) (q : Addr × Obj), L2H.RoomH k A → A.handled = some (.ref q.1) → L2H.PinOk outer H s q →
    Env0 P w K mg base A outer s H → BindsTo s fd args (ps.zip us) → Vals vs us → sp q vs H Q E → codeAny (model P w) A (.call (.ref f) args) (CR CX outer P w H s Q E) s
theorem fn_ofP {CX : CXT} {P : Program} {w : World} {K : PySem.W.Frag} {mg : Str → Option Value} {base : Heap} {k : Nat} {f : Addr} {name qual : Str} {params : Arguments} {body : List Stmt} {scope : Scope} {kws : List (Str × V)} {dvs : List V} {fd : FuncData}
    {N ps : List Str} {sp : Addr × Obj → Sp} (F : FunD K name qual params body scope dvs kws f fd) (S : FnScope N ps scope) (len : ∀ q vs H Q E, sp q vs H Q E → vs.length = ps.length)
    (hbody : ∀ (cdv : Value) (A : Around) (outer : List Env) (s : Shared) (H : Hp) (vs : List V) (Q : VK) (E : XK) (q : Addr × Obj), A.handled = some (.ref q.1) → L2H.RoomH k (A.deeper (envOfC qual scope s.heap.objs.size f cdv)) → sp q vs H Q E →
      ∃ t, PSs (L2H.cxH CX P w K mg base N qual scope f cdv A outer s H E q) body t ∧ t { nx := fun _ H' => Q .non H', rt := Q } (L2.start N vs) H) : FnP P w K mg base CX (k + 1) f fd ps sp := by
  obtain ⟨oc, od, dV, kV, doc, pm, an, cdv, ct, osl, rfl, lk, hcd, _, _⟩ := F.ex
  refine ⟨len, fun A outer s H args us vs Q E q hr hot hpin e0 hb r hsp => ?_⟩
  have KX : K.In s.heap := e0.mod.kin.keeps fun b o z => (e0.bs b o z).1
  have hkind : ∀ y ∈ ps.zip us, scope.names.lookup y.1 = some .local ∨ (scope.names.lookup y.1 = some .cell ∧ ((cellsFrom (s.heap.objs.size + 1) scope.names []).lookup y.1).isSome = true) := by
    rintro ⟨n, v⟩ hy
    rcases S.par n (List.of_mem_zip hy).1 with z | z
    · exact .inl z
    · exact .inr ⟨z, PySem.W.cellsFrom_some _ _ _ (.inl z)⟩
  refine codeAny_call_function hr.depth (KX _ _ lk) rfl S.co S.gen rfl (PySem.W.codeRec_of KX hcd) (hb _ _ _ _ (wpAny_newFunctionEnv_cells S.kind hkind fun env he s1 x => ?_))
  subst he
  refine ⟨(e0.mod.nolimit.keeps fun b o z => (e0.bs b o z).1).keeps x.toInCall.keep, codeAny_func ?_⟩
  obtain ⟨t, ht, hq⟩ := hbody cdv A outer s H vs Q E q hot (hr.deeper _) hsp
  have I := L2H.inv_startH (CX := CX) (E := E) (qual := qual) (f := f) (cd := cdv) S hpin e0 (len _ _ _ _ _ hsp) r x
  refine wpAny_mono (ht.run [] s1 (L2.start N vs) H _ I hq) (fun fl s' hs => ?_) fun e s' hs => hs
  cases fl with
  | ret u => exact let ⟨v, σ', H', J, rv, qq⟩ := hs; ⟨v, H', J.os, J.bare, J.base, J.hok, rv, qq⟩
  | next => exact let ⟨σ', H', J, qq⟩ := hs; ⟨V.non, H', J.os, J.bare, J.base, J.hok, rfl, qq⟩
  | brk => exact let ⟨_, _, _, z⟩ := hs; z.elim
  | cont => exact let ⟨_, _, _, z⟩ := hs; z.elim
/-- a def of the text that may be called so -/
structure CalP (P : Program) (w : World) (K : PySem.W.Frag) (mg : Str → Option Value) (base : Heap) (x : Str) (k : Nat) (ps : List Str) (sp : Addr × Obj → Sp) : Prop where
  ex : ∃ f fd, FnP P w K mg base CX0 k f fd ps sp ∧ mg x = some (.ref f) ∧ PySem.W.keepIn K (.ref f) = true ∧ Binds K fd ps []
theorem pe_calP {X : Cx} {k k' : Nat} {ps : List Str} {sp : Addr × Obj → Sp} {x : Str} {p pos : Pos} {e : Expr} {es : List Expr} {t : TA} {q : Addr × Obj} (c : CalP X.prog X.w X.K X.mg X.base x k ps sp) (hr : L2H.RoomH k' X.A) (hk : k ≤ k') (hc : PinC X q) (hg : Gl X x) (ha : PA X (e :: es) t)
    (hdb : (x == ("__debug__" : Str)) = false := by decide) (he : starEach (e :: es) X.env = (false, eval e X.env) :: starEach es X.env := by rfl) (hpl : (backTo pos (starEach es X.env)).any (·.1) = false := by rfl) :
    PE X (.Call (.Name x p) (e :: es) [] pos) (tCall (sp q) [] E0 t) := by
  obtain ⟨f, fd, F, hm, kp, b⟩ := c.ex
  have run : ∀ {pins : List (Addr × Obj)} {σ : L2.St} {H : Hp} {s : Shared} {Q : VK} {us : List Value} {vs : List V}, Inv X pins σ H s → Vals vs us → sp q vs H Q E0 → wpAny (model X.prog X.w) X.A (call (.ref f) us) (EP X pins σ Q) X.xe s := by
    intro pins σ H s Q us vs I r h
    have hl : us.length = ps.length := by rw [← r.length]; exact F.len _ _ _ _ _ h
    have bb := b s us I.kIn (by rw [List.append_nil]; exact hl)
    rw [List.append_nil] at bb
    have P1 := I.pin q (List.mem_append_left _ hc.2)
    have hpin : L2H.PinOk X.stack H s q := ⟨P1.1, P1.2.1, fun hm => (List.mem_cons.mp (I.stkSub q.1 hm)).elim P1.2.2.1 P1.2.2.2.1, P1.2.2.2.2⟩
    refine wpAny_call (codeAny_mono (F.run X.A X.stack s H ⟨us, []⟩ us vs Q E0 q (hr.mono hk) hc.1 hpin I.env0 bb r h) fun rr s' hq => ?_)
    cases rr with
    | error er => exact hq.elim
    | ok fl =>
      cases fl with
      | ret u => exact I.after hq
      | next => exact hq.elim
      | brk => exact hq.elim
      | cont => exact hq.elim
  refine ⟨fun pins s σ H Q I h => wpAny_Call_Name_kw (ld_glob I hg hm ?_ hdb)⟩
  refine PySem.W.callWith_K (h₀ := X.base) I.ok.mod.kin kp (thn (ha.run pos pins s σ H _ I h) fun us s1 ⟨vs, H1, I1, r, h2⟩ => ⟨I1.kIn, ?_⟩) he hpl
  have h3 : sp q (vs ++ []) H1 Q E0 := h2
  rw [List.append_nil] at h3
  exact run I1 r h3
end K17
end

section
set_option linter.all false
set_option maxRecDepth 100000
set_option maxHeartbeats 2000000
/-! enumerate over a tuple -/
namespace K17
open PySem PySem.Spec PyProof.Rows L2 G17 M17
set_option maxHeartbeats 4000000 in
theorem meets_enum1 {v : Value} {o : Obj} {H : Heap → Prop} (B : Begins v o H) :
    Meets (Builtin.«enumerate.__new__» ⟨[.type "enumerate", v], []⟩) (fun _ R s => H s.heap ∧
      R (.ok (.ret (.ref (s.heap.push o).objs.size))) { s with heap := (s.heap.push o).push { cls := .type "enumerate", data := .fields #[.none, .bool false, .ref s.heap.objs.size, rawInt 0, .none, .none] } }) :=
  .of_wp fun prog w A R s h => by
    obtain ⟨hp, g, d, tk, os⟩ := s
    obtain ⟨h1, h⟩ := h
    have hsub := sub_enumerate
    have it1 : ∀ {A' : Around} {E Q : Value → Shared → Prop}, Q (.ref hp.objs.size) ⟨hp.push o, g, d, tk, os⟩ → wpAny (model prog w) A' (pyIter v) Q E ⟨hp, g, d, tk, os⟩ := fun q => B.iter prog w _ _ ⟨hp, g, d, tk, os⟩ _ h1 q
    wp_walk using it1
    refine wpAny_stack_any fun st => wpAny_pure ?_
    split
    · rename_i c _ _ _ _ _
      cases (c == Value.type "enumerate") <;> (wp_walk using it1; exact ⟨_, rfl, h⟩)
    · wp_walk using it1
      exact ⟨_, rfl, h⟩
theorem enum1 {prog : Program} {w : World} {A : Around} {E : Value → Shared → Prop} {s : Shared} {v : Value} {o : Obj} {H : Heap → Prop} {Q : Value → Shared → Prop} (B : Begins v o H) (h1 : H s.heap)
    (h : ∀ h', IsEnum h' (s.heap.objs.size + 1) s.heap.objs.size 0 .none → h'.get? s.heap.objs.size = some o → (∀ b o, s.heap.get? b = some o → h'.get? b = some o) → Q (.ref (s.heap.objs.size + 1)) { s with heap := h' }) :
    wpAny (model prog w) A (call (.type "enumerate") [v]) Q E s := by
  refine callType_new F.called_enumerate (by decide) (F.typeCall_enumerate_1 _) (F.newCall_enumerate_1 _) (fun obj => F.args_object_init_2 obj _) F.entry_enumerate_new (meets_enum1 B) ⟨h1, ?_⟩
  have hz : (s.heap.push o).objs.size = s.heap.objs.size + 1 := Heap.size_push ..
  show _ ∧ _
  rw [hz]
  have he : IsEnum ((s.heap.push o).push { cls := .type "enumerate", data := .fields #[.none, .bool false, .ref s.heap.objs.size, rawInt 0, .none, .none] }) (s.heap.objs.size + 1) s.heap.objs.size 0 .none := by
    have z := Heap.get?_push_size (s.heap.push o) (o := { cls := .type "enumerate", data := .fields #[.none, .bool false, .ref s.heap.objs.size, rawInt 0, .none, .none] }) rfl
    rw [hz] at z
    exact z
  exact ⟨⟨_, he, rfl⟩, h _ he (Heap.get?_push_of_some _ (Heap.get?_push_size _ B.free)) fun b o x => Heap.get?_push_of_some _ (Heap.get?_push_of_some _ x)⟩
/-- the tuple at a as it stands at each turn, each item in a new pair -/
def IteT (K : PySem.W.Frag) (a : Addr) : It :=
  ⟨fun i H => ∃ (xs : List V) (x : V), SqT K H a xs ∧ xs[i]? = some x, fun i H v H' => ∃ T x, v = .ref T ∧ H T = none ∧ H' = upd H T (.tup [.int (i : Nat), x]) ∧ ∀ xs, SqT K H a xs → xs[i]? = some x,
    fun i H => ∃ xs : List V, SqT K H a xs ∧ xs.length = i⟩
theorem turn_enumT {P : Program} {w : World} {K : PySem.W.Frag} {elts : List Expr} {kk : Nat} {tpos : Pos} (a e it : Addr) :
    Turn P w K (.Tuple elts kk tpos) (IteT K a) [e, it] e (fun i h => (∃ old, IsEnum h e it ((i : Nat) : Int) old) ∧ h.IsTupleIter it a i ∧ e ≠ it ∧ a ≠ it ∧ a ≠ e) where
  mem := by simp
  obj := fun i h st b hb => by
    obtain ⟨⟨old, he⟩, ⟨o, ho, hc, hd⟩, _⟩ := st
    rcases (show b = e ∨ b = it by simpa using hb) with z | z
    · rw [z]; exact ⟨_, he, fun v q => nomatch q⟩
    · rw [z]; exact ⟨o, ho, fun v q => by rw [hd] at q; cases q⟩
  keep := fun i h h' st k => let ⟨⟨old, he⟩, hi, hne⟩ := st; ⟨⟨old, k e (by simp) _ he⟩, hi.at fun o q => k it (by simp) o q, hne⟩
  item := by
    intro X hP hw hK hc i pins s σ H E I hf st hg
    subst hP hw hK
    obtain ⟨⟨old, he⟩, hit, hne, hai, hae⟩ := st
    obtain ⟨xs, x, hq, hx⟩ := hg
    obtain ⟨its, rv, p, hz⟩ := I.tuple hq
    obtain ⟨u, hu, ru⟩ := rv.get hx
    have hel : e < s.heap.objs.size := Heap.lt_size he
    have hil : it < s.heap.objs.size := by obtain ⟨_, q, _⟩ := hit; exact Heap.lt_size q
    have hlt : i < its.toArray.size := by
      have := (List.getElem?_eq_some_iff.mp hu).1
      simpa using this
    refine wpAny_pyNext_enum_itemD (Draws.tuple (A := X.A.in1) (I.ok.hd hc) it a hai its.toArray) he ⟨hit, p⟩ hlt hne (by simp [hne, Ne.symm hae]) fun y h' tk hy ho hst hT hsz hk => ?_
    have ey : y = u := by
      rw [List.getElem?_toArray, hu] at hy
      exact (Option.some.inj hy).symm
    subst ey
    refine ⟨_, rfl, wpAny_letOwnedTupleGo_enum (s := { s with heap := h', toks := tk + 1 }) ho fun h'' he' sb => ?_⟩
    have hT2 : h''.get? s.heap.objs.size = some { cls := .type "tuple", data := .seq #[.int i tk, y] } := (sb.2 _ (Nat.ne_of_gt hel)).trans hT
    have new : ObjOk X.prog X.w (upd H s.heap.objs.size (.tup [.int (i : Nat), x])) h'' s.heap.objs.size (.tup [.int (i : Nat), x]) :=
      ⟨by show 2 ≤ sizeLine; decide, [.int i tk, y], .cons ⟨_, rfl⟩ (.cons ru .nil), ⟨_, hT2, rfl, _, rfl⟩⟩
    have I1 : Inv X pins σ (upd H s.heap.objs.size (.tup [.int (i : Nat), x])) { s with heap := h'', toks := tk + 1 } :=
      I.turnedNew (ch := [e, it]) (fun b ob hb q => (sb.2 b (fun z => hb (by simp [z]))).trans (hk b ob (fun z => hb (by simp [z])) (fun z => hb (by simp [z])) q)) hf (Nat.le_refl _) new
    refine ⟨.ref s.heap.objs.size, _, I1, rfl, ⟨_, x, rfl, I.hok.fresh (Nat.le_refl _), rfl, fun ys hy => by rw [I.tuple_inj hy hq]; exact hx⟩, ⟨⟨y, ?_⟩, hst.1.at fun o q => (sb.2 it (Ne.symm hne)).trans q, hne, hai, hae⟩, fun b hb => ?_⟩
    · rw [show ((i + 1 : Nat) : Int) = (i : Int) + 1 by omega]; exact he'
    · have hb' : b < s.heap.objs.size := by
        rcases (show b = e ∨ b = it by simpa using hb) with z | z
        · rw [z]; exact hel
        · rw [z]; exact hil
      rw [upd_ne (Nat.ne_of_lt hb')]
      exact (hf b hb).1
  done := by
    intro X hP hw hK hc i pins s σ H E I hf st hg
    subst hP hw hK
    obtain ⟨⟨old, he⟩, hit, hne, hai, hae⟩ := st
    obtain ⟨xs, hq, hx⟩ := hg
    obtain ⟨its, rv, p, hz⟩ := I.tuple hq
    have f0 := hf it (by simp)
    obtain ⟨g0, g1, g2, g3, g4, g5⟩ := f0
    have hl := rv.length
    have hi : its.toArray.size = i := by rw [List.size_toArray]; omega
    subst hi
    exact wpAny_pyNext_enum_endD (Draws.tuple (A := X.A.in1) (I.ok.hd hc) it a hai its.toArray) he ⟨hit, p⟩ fun h' eb => ⟨rfl, I.turned (t' := s.toks) (fun b o hb q => eb b o hb q) g0 g1 g3 g4 g5⟩
  self := fun A i s Q E st h => let ⟨⟨_, he⟩, _⟩ := st; wpAny_pyIter_enum he h
def iEnumT (K : PySem.W.Frag) (ta : TA) : TI := fun σ H R => ta σ H fun vs H1 => ∃ a xs, vs = [.ref a] ∧ SqT K H1 a xs ∧ R (IteT K a) H1
theorem pi_enumT {X : Cx} {e : Expr} {ta : TA} {p pos tpos : Pos} {elts : List Expr} {kk : Nat} (hg : Gl X "enumerate") (hm : X.mg "enumerate" = none) (ha : PA X [e] ta) (hs : starEach [e] X.env = [(false, eval e X.env)] := by rfl) :
    PI X (.Tuple elts kk tpos) (.Call (.Name "enumerate" p) [e] [] pos) (iEnumT X.K ta) := by
  refine ⟨fun pins s σ H R I h => Call_ (ld_blt I hg hm boot_enumerate (PyProof.Rows.callWith_type1 (thn (ha.run pos pins s σ H _ I h) fun us s1 ⟨vs, H1, I1, r1, q1⟩ => ?_) hs rfl))⟩
  obtain ⟨a, xs, rfl, hq, q⟩ := q1
  obtain ⟨u, rfl, r⟩ := vals1 r1
  cases r
  obtain ⟨its, rv, p', hz⟩ := I1.tuple hq
  have hal : a < s1.heap.objs.size := by obtain ⟨o, ho, _⟩ := id p'; exact Heap.lt_size ho
  refine enum1 (begins_tuple a its.toArray) p' fun h' he hit hk => wpAny_pyIter_enum he ?_
  have I2 : Inv X pins σ H1 { s1 with heap := h' } := I1.kept (t' := s1.toks) hk
  refine ⟨s1.heap.objs.size + 1, [s1.heap.objs.size + 1, s1.heap.objs.size], _, _, H1, rfl, I2, turn_enumT a (s1.heap.objs.size + 1) s1.heap.objs.size,
    ⟨⟨.none, he⟩, ⟨_, hit, rfl, rfl⟩, Nat.succ_ne_self _, Nat.ne_of_lt hal, Nat.ne_of_lt (Nat.lt_succ_of_lt hal)⟩, fun b hb => ?_, q⟩
  have hle : s1.heap.objs.size ≤ b := by
    rcases (show b = s1.heap.objs.size + 1 ∨ b = s1.heap.objs.size by simpa using hb) with z | z
    · rw [z]; exact Nat.le_add_right _ _
    · rw [z]; exact Nat.le_refl _
  exact I1.fpOk hle (I1.hok.fresh hle)
theorem walk_enumT {K : PySem.W.Frag} {a : Addr} {xs : List V} : Walk (IteT K a) xs.length (fun H => SqT K H a xs) (YPair (fun i => some (.int (i : Nat))) (fun i => xs[i]?)) := by
  refine ⟨fun i _ hi q => ⟨xs, xs[i], q, by simp [hi]⟩, fun _ q => ⟨xs, q, rfl⟩, fun i H v H' _ q y => ?_⟩
  obtain ⟨T, x, h1, h2, h3, h4⟩ := y
  exact ⟨T, .int (i : Nat), x, h1, h2, h3, rfl, h4 xs q⟩
end K17
end

section
set_option linter.all false
set_option maxRecDepth 100000
set_option maxHeartbeats 2000000
namespace K17
open PySem PySem.Spec PyProof.Rows L2 G17 M17
open GxR (TabG Tabbed)
section
variable {P : Program} {w : World} {K : PySem.W.Frag} {mg : Str → Option Value} {base : Heap} {TT : List Addr} {C : Addr}
theorem sc_sum_to : FnScope ["p", "rows", "row", "across", "letters", "head", "place", "letter", "one"] ["p", "rows", "row"] (defScope (topS 32)) := ⟨rfl, rfl, rfl, by decide +kernel, rfl, by decide +kernel, by decide +kernel⟩
/-- the letters, or Undefined of "sum" -/
def sp_sum_to (TT : List Addr) (C : Addr) : Sp := fun vs H Q E => ∃ rv wv p n R W, vs = [.int p, rv, wv] ∧ isP p ∧ 1 ≤ n ∧ n ≤ 5 ∧ R.length ≤ 100 ∧ OkM p n R ∧ OkR p n W ∧ Mx H rv R ∧ Rw H wv W ∧ Tabs TT H ∧
  (Sp p n R (g W) → ∀ H' v L, Ext TT [] H H' → Rw H' v L → L.length = R.length → (∀ x ∈ L, 0 ≤ x ∧ x < p) → (∀ j, j < n → dotF (fun k => L.getD k 0) R j % p = g W j) → Q v H') ∧
  (¬ Sp p n R (g W) → ∀ H' d, Ext TT [] H H' → H d = none → H' d = some (.xd [("what", .str "sum")]) → E (.ref C) (some d) H')
theorem c_sum_to (F : ∃ f fd, FunAt K mg "sum_to" "sum_to" (topS 32) f fd) (T : Bl K mg) (U : EC K mg "Undefined" "Undefined.__init__" "what" (methS 17) C) (C_check : Cal P w K mg base CX0 "_check" 6 ["p", "rows"] (sp_check TT))
    (C_reduced : Cal P w K mg base CX0 "_reduced" 3 ["p", "rows"] (sp_reduced TT)) (C_first_place : Cal P w K mg base CX0 "_first_place" 1 ["row"] sp_first_place) :
    Cal P w K mg base (L2N.CX P w) "sum_to" 7 ["p", "rows", "row"] (sp_sum_to TT C) := by
  have SC := sc_sum_to
  obtain ⟨fI, fdI, iC, tI, FI⟩ := U.ini
  refine cal_ofX F sc_sum_to (fun _ _ _ _ _ _ us hl => match us, hl with | [_, _, _], _ => rfl) (fun vs H Q E h => by obtain ⟨rv, wv, p, n, R, W, rfl, _⟩ := h; rfl) fun f cdv A outer s H vs Q E hr h => ?_
  obtain ⟨rv, wv, p, n, R, W, rfl, hp, n1, n5, hz, okR, okW, hR, hW, tb, qS, qU⟩ := h
  refine ⟨_, (pss_cons (ps_expr (pe_cal (E := E0) C_check hr (by decide) (by rfl) pass0 (pa_cons (pv 0) (pa_cons (pv 1) pa_nil))))
    (pss_cons (ps_setLc (i := 3) (own := [("place", 6), ("letter", 7)]) (by rfl) SC.nd rfl rfl (sw_true rfl rfl rfl (by kernel_rfl)) (pi_enumT (by rfl) T.nenumerate (pa_cons (pv 2) pa_nil)) (blkOk_by (by kernel_rfl)) (by intro _ _ _ _ _; exact (pg_pair (K := K) (i := 6) (j := 7) rfl rfl SC.nd rfl rfl (.inr rfl) (.inl rfl) (by first | exact .inr rfl | exact .inl rfl) (by first | exact .inr rfl | exact .inl rfl))) (by intro _ _ _ _ _; exact pts_nil) (by intro _ _ _ _ _; exact (pe_callTy (call_tuple_ofK (K := K) rfl) (by rfl) T.ntuple (by decide +kernel) (pa_cons (pe_lst (pa_starK (K := K) rfl (pe_lc (own := [("one", 8)]) (by rfl) SC.nd (pi_tupK (K := K) rfl (pv 1)) (blkOk_by (by kernel_rfl)) (by intro _ _ _ _ _; exact (pg_name (i := 8) SC.nd rfl (.inl rfl))) (by intro _ _ _ _ _; exact pts_nil) (by intro _ _ _ _ _; exact (pe_ix (ix_tupK (K := K) rfl) (pv 8) (pv 6) (fun _ _ => rfl)))) (pa_cons (pv 7) pa_nil))) pa_nil))))
    (pss_cons (ps_set (i := 4) SC.nd rfl (.inl rfl) (pe_op op_rep (pe_lst (pa_cons pe_int pa_nil)) (pe_callB call_len_seq (by rfl) T.nlen (by decide +kernel) (pa_cons (pv 1) pa_nil))))
    (pss_cons (ps_for PassesOwn.leaving rfl (pi_list (pe_cal (E := E0) C_reduced hr (by decide) (by rfl) pass0 (pa_cons (pv 0) (pa_cons (pv 3) pa_nil)))) (pg_name (i := 5) SC.nd rfl (.inl rfl)) (pss_cons (ps_set (i := 6) SC.nd rfl (.inl rfl) (pe_cal (E := E0) C_first_place hr (by decide) (by rfl) pass0 (pa_cons (pv 5) pa_nil)))
      (pss_cons (ps_if (pt_cmpR op_eq (pv 6) (pe_callB call_len_seq (by rfl) T.nlen (by decide +kernel) (pa_cons (pv 1) pa_nil)) (nomark _)) (pss_one (L2N.ps_raise (W := fun cls d _ H => E cls d H) rfl (L2N.takes_of rfl rfl rfl rfl) (pmkN U.T iC tI (iniUndefined (C := C) FI) (hr.mono (by decide)) (biUndefined FI) (by rfl) U.g (pa_cons pe_str pa_nil)))) pss_nil)
      (pss_one (ps_asg (pe_ix ix_tup (pv 5) (pe_un un_neg pe_int) (fun _ _ => rfl)) (pg_sub (pv 4) (pv 6) set_list))))))
    (pss_one (ps_ret (pe_callTy call_tuple_of (by rfl) T.ntuple (by decide +kernel) (pa_cons (pv 4) pa_nil)))))))), ?_⟩
  have p5 := hp.five
  have p2 := hp.two
  refine ⟨_, rfl, _, rfl, rv, p, n, R, rfl, hp, n1, n5, okR, hR, tb, fun H1 x1 => ?_⟩
  obtain ⟨ra, rvs, rfl, hra, prR⟩ := hR.mono x1
  obtain ⟨wa, rfl, hwa⟩ := hW.mono x1
  refine ⟨_, rfl, wa, _, rfl, sqt hwa, fun D hD => lc_it walk_enumT (LP TT [] D H1 Rw fun j => (across n R W).take j) (.start rfl hD) (fun j H3 _ lp => sqt (lp.ext.tup _ _ hwa)) ?_ ?_⟩
  · rintro j x H3 H4 hj lp ⟨A1, y1, y2, rfl, hA1, rfl, e1, e2⟩
    cases e1
    obtain ⟨rfl, hjl⟩ := getI e2
    rw [okW.1] at hjl
    have x4 : Ext TT [] H3 (upd H3 A1 (.tup [.int (j : Nat), .int (g W j)])) := .new hA1
    have x14 := lp.ext.trans x4
    refine ⟨A1, _, rfl, sqt upd_same, rfl, _, _, rfl, _, _, rfl, rfl, rfl, yes ?_⟩
    refine ⟨_, rfl, ra, rfl, ⟨_, sqt (x14.tup _ _ hra)⟩, fun D2 hD2 => lc_tup (LP TT [] D2 _ RI fun i => (R.map fun r => g r j).take i) (.start rfl hD2) (fun i H5 _ lp2 => sqt ((x14.trans lp2.ext).tup _ _ hra)) ?_ ?_⟩
    · intro i x H5 hx lp2
      obtain ⟨r, hr5, ⟨b, rfl, hb⟩⟩ := paired_get prR hx
      have orr := okR r (List.mem_of_getElem? hr5)
      refine ⟨rfl, yes ⟨_, rfl, _, rfl, b, _, _, _, rfl, rfl, sqt ((x14.trans lp2.ext).tup _ _ hb), atI_nat (K17.atI (by rw [orr.1]; exact hjl)), ?_⟩⟩
      refine lp2.pushI hD2 (by simp) (.refl _) (take_succ_of (by rw [List.getElem?_map, hr5]; rfl)) (lz1000 ?_)
      rw [List.length_take, List.length_map]
      omega
    · intro H5 lp2
      have hI5 := lp2.ints
      rw [List.take_of_length_le (by rw [List.length_map, prR.length]; exact Nat.le_refl _)] at hI5
      refine ⟨D2, _, rfl, .inr (sql hI5), _, rfl, sz1000 (by simp only [List.length_append, List.length_map, List.length_singleton]; omega), fun D3 hD3 => ⟨D3, _, rfl, .inl ⟨sql upd_same, fun l hl => ?_⟩⟩⟩
      have x6 : Ext TT [] H3 _ := ((x4.trans lp2.ext).trans (Ext.new hD3)).trans (.new (o := .tup ((R.map fun r => g r j).map V.int ++ [.int (g W j)])) hl)
      refine lp.pushR hD (by simp) x6 (b := (R.map fun r => g r j) ++ [g W j]) ⟨l, rfl, ?_⟩ (take_succ_of ?_) (lz1000 ?_)
      · rw [List.map_append]
        exact upd_same
      · unfold across
        rw [List.getElem?_map, List.getElem?_range hjl]
        rfl
      · rw [List.length_take]
        omega
  · intro H3 lp
    obtain ⟨avs, hav, prA0, x13⟩ := lp
    have lA : (across n R W).length = n := by unfold across; rw [List.length_map, List.length_range]
    have t0 : (across n R W).take (List.map V.int W).length = across n R W := List.take_of_length_le (by rw [List.length_map, okW.1, lA]; exact Nat.le_refl _)
    simp only [t0] at prA0
    have hra3 := x13.tup _ _ hra
    have lR := prR.length
    refine ⟨by show 1 ≤ sizeLine; decide, fun z0 hz0 => ?_⟩
    have xz : Ext TT [] H3 (upd H3 z0 (.lst [.int 0])) := .new hz0
    refine ⟨_, rfl, ra, _, rfl, .inr (sqt (xz.tup _ _ hra3)), z0, _, _, rfl, rfl, upd_same, by omega, by omega, sz1000 (by simp; omega), fun l hl => ?_⟩
    have hfl : (List.replicate ((rvs.length : Int)).toNat [V.int 0]).flatten = (List.replicate R.length (0 : Int)).map V.int := by
      rw [Int.toNat_natCast, lR]
      generalize R.length = m
      induction m with
      | zero => rfl
      | succ m ih => rw [List.replicate_succ, List.flatten_cons, ih, List.replicate_succ]; rfl
    rw [hfl]
    have xl : Ext TT [] H3 (upd (upd H3 z0 (.lst [.int 0])) l (.lst ((List.replicate R.length (0 : Int)).map V.int))) := xz.trans (.new hl)
    have nl : H l = none := (x1.trans (x13.trans xz)).dom _ hl
    generalize hH4 : upd (upd H3 z0 (.lst [.int 0])) l (.lst ((List.replicate R.length (0 : Int)).map V.int)) = H4 at *
    have hl4 : H4 l = some (.lst ((List.replicate R.length (0 : Int)).map V.int)) := by rw [← hH4]; exact upd_same
    have okA := across_ok hp okR okW
    have hne : across n R W ≠ [] := fun z => by rw [z] at lA; simp at lA; omega
    refine ⟨_, rfl, _, rfl, .ref D, p, R.length + 1, across n R W, rfl, hp, by omega, hne, by omega, okA, ⟨D, avs, rfl, xl.lst hav, L2.Paired.mapP prA0 fun _ _ r => r.mono xl⟩, fun H5 b x5 hbn hLR => ?_⟩
    obtain ⟨b', ws, eb, hb, prA⟩ := hLR
    cases eb
    obtain ⟨PP, I⟩ := red_inv hp okA
    change Paired (Rw H5) ws (redS p (R.length + 1) (across n R W)).2 at prA
    generalize hs : redS p (R.length + 1) (across n R W) = S at *
    have nbl : (b : Nat) ≠ l := fun z => by rw [show b = l from z, hl4] at hbn; cases hbn
    have lW := prA.length
    have lP := I.len
    have x15 : Ext TT [] H H5 := ((x1.trans x13).trans xl).trans x5
    refine ⟨b, rfl, ⟨_, sql hb⟩, for_list (fun i σ H' => (∃ y5 y6, σ = [some (.int p), some (.ref ra), some (.ref wa), some (.ref D), some (.ref l), y5, y6, none, none]) ∧ H' l = some (.lst ((ltr PP S.2 R.length i).map V.int)) ∧ Ext TT [] H H' ∧
      H' b = some (.lst ws) ∧ Paired (Rw H') ws S.2 ∧ H' ra = some (.tup rvs) ∧ ∀ t, t < i → PP.getD t 0 ≠ R.length) ⟨⟨_, _, rfl⟩, x5.lst hl4, x15, hb, prA, x5.tup _ _ (xl.tup _ _ hra3), fun t ht => absurd ht (Nat.not_lt_zero _)⟩ (fun i σ H' _ h => sql h.2.2.2.1) ?_ ?_⟩
    · rintro i x σ H6 hx ⟨⟨y5, y6, rfl⟩, hl6, x6, hb6, pr6, hra6, hP⟩
      obtain ⟨r, hr6, ⟨hd, rfl, hhd⟩⟩ := paired_get pr6 hx
      have orr := I.okf r (List.mem_of_getElem? hr6)
      refine ⟨_, rfl, .ref hd, r, rfl, ⟨hd, rfl, hhd⟩, fun z => by rw [z] at orr; exact absurd orr.1 (by simp), by rw [orr.1]; omega, fun k hk => ?_⟩
      obtain ⟨ek, klt⟩ := fst_is I (Nat.le_refl _) hr6 hk
      have hiP : i < PP.length := by have := (List.getElem?_eq_some_iff.mp hx).1; omega
      have hmem : k ∈ PP := by rw [ek]; exact List.mem_of_getElem? (at_getD hiP)
      refine ⟨_, rfl, _, rfl, ra, _, rfl, .inr (sqt hra6), rfl, _, rfl, ite2 (fun e => ?_) (fun e => ?_)⟩
      · have e1 : (k : Int) = (rvs.length : Int) := V.int.inj (of_decide_eq_true e)
        have e2 : k = R.length := by omega
        exact made U.T U.nf fun d hd' => qU (no_sol hp I (by rw [← e2]; exact hmem)) _ d (x6.trans (.new hd')) (x6.dom _ hd') upd_same
      · have e2 : k ≠ R.length := fun z => e (decide_eq_true (by rw [z, lR]))
        have hk2 : k < R.length := by rw [← ek] at klt; omega
        refine ⟨_, rfl, 1, rfl, hd, _, _, _, rfl, rfl, sqt hhd, atI_neg orr.1, ?_⟩
        refine ⟨_, rfl, _, rfl, l, _, _, k, rfl, rfl, hl6, ixNat (by rw [List.length_map, ltr_len]; exact hk2), ?_⟩
        have u6 : ∀ b xs, H6 b = some (.tup xs) → upd H6 l (.lst (((ltr PP S.2 R.length i).map V.int).set k (.int (g r R.length)))) b = some (.tup xs) := fun b xs hb => tup_upd hl6 (fun xs z => by cases z) hb
        refine ⟨⟨_, _, rfl⟩, ?_, x6.mut nl, by rw [upd_ne nbl]; exact hb6, L2.Paired.mapP pr6 fun _ _ ⟨b, e, hb⟩ => ⟨b, e, u6 _ _ hb⟩, u6 _ _ hra6, fun t ht => ?_⟩
        · rw [ltr_succ, ← ek, getD_row hr6, List.map_set]
          exact upd_same
        · by_cases z : t = i
          · rw [z, ← ek]; exact e2
          · exact hP t (by omega)
    · rintro σ H6 ⟨⟨y5, y6, rfl⟩, hl6, x6, hb6, pr6, hra6, hP⟩
      have hm : R.length ∉ PP := fun z => by
        obtain ⟨t, ht, et⟩ := List.getElem_of_mem z
        refine hP t (by omega) ?_
        rw [List.getD_eq_getElem?_getD, List.getElem?_eq_getElem ht, et]; rfl
      have lwp : ws.length = PP.length := by omega
      rw [lwp] at hl6
      obtain ⟨s1, s2, s3⟩ := sol hp okR okW I hm
      refine ⟨_, rfl, l, _, rfl, .inl ⟨sql hl6, fun v hv => qS s1 _ _ _ (x6.trans (.new hv)) ⟨v, rfl, upd_same⟩ (ltr_len _ _ _ _) s2 s3⟩⟩
end
end K17
end

section
set_option linter.all false
set_option maxRecDepth 100000
set_option maxHeartbeats 2000000
namespace K17
open PySem PySem.Spec PyProof.Rows L2 G17 M17
open GxR (TabG Tabbed)
theorem passN0 {P : Program} {w : World} {X : Cx} : Passes (L2N.CX P w) X E0 := fun _ _ _ _ _ _ _ h => by
  obtain ⟨_, _, _, _, _, _, _, _, _, _, _, _, z⟩ := h
  exact z.elim
theorem passN {X : Cx} {W : WX} (tk : L2N.Takes X W) (σ : L2.St) : PassesAt (L2N.CX X.prog X.w) X σ (WE W σ) := fun _ _ _ e s' I c => tk e s' (L2N.XE.of_call I (fun _ _ _ h => h) c)
/-- the class Audience -/
structure AuC (K : PySem.W.Frag) (mg : Str → Option Value) (C : Addr) : Prop where
  g : mg "Audience" = some (.ref C)
  c : Cls K C
  np : NoAttr K C "p"
  nsz : NoAttr K C "size"
  nl : NoAttr K C "listeners"
  ini : ∃ fI fd, Mk K C fI ∧ FunD K "__init__" "Audience.__init__" (defArgs (methS 41)) (defBody (methS 41)) (defScope (methS 41)) [] [] fI fd
/-- an audience of the program -/
def AuO (C : Addr) (H : Hp) (v : V) (p n : Int) (ls : List (List M17.Row × List M17.Row)) : Prop := ∃ a dx l, v = .ref a ∧ H a = some (.ins C dx [("p", .int p), ("size", .int n), ("listeners", l)]) ∧ Lss H l ls
theorem AuO.mono {T M : List Addr} {C : Addr} {H H' : Hp} {v : V} {p n : Int} {ls : List (List M17.Row × List M17.Row)} (e : Ext T [] H H') (h : AuO C H v p n ls) : AuO C H' v p n ls := by
  obtain ⟨a, dx, l, h1, h2, h3⟩ := h
  exact ⟨a, dx, l, h1, e.ins (by simp) h2, h3.mono e⟩
section
variable {P : Program} {w : World} {K : PySem.W.Frag} {mg : Str → Option Value} {base : Heap} {TT : List Addr} {CA CN CM CU : Addr}
theorem sc_is_lt : FnScope ["audience", "value"] ["audience", "value"] (defScope (topS 34)) := ⟨rfl, rfl, rfl, by decide +kernel, rfl, by decide +kernel, by decide +kernel⟩
def sp_is_lt (CA : Addr) : Sp := fun vs H Q _ => ∃ av v t p n ls, vs = [av, v] ∧ AuO CA H av p n ls ∧ Kd H v t ∧ Q (.bl (letB v (ls.length : Nat))) H
theorem c_is_lt (F : ∃ f fd, FunAt K mg "is_listener_tellings" "is_listener" (topS 34) f fd) (T : Bl K mg) (A : AuC K mg CA) : Cal P w K mg base CX0 "is_listener_tellings" 1 ["audience", "value"] (sp_is_lt CA) := by
  have SC := sc_is_lt
  refine cal_of F sc_is_lt (fun _ _ _ _ _ _ us hl => match us, hl with | [_, _], _ => rfl) (fun vs H Q E h => by obtain ⟨av, v, t, p, n, ls, rfl, _⟩ := h; rfl) fun f cdv A' outer s H vs Q E hr h => ?_
  obtain ⟨av, v, t, p, n, ls, rfl, ⟨a, dx, l, rfl, ha, ⟨la, lvs, rfl, hla, pl⟩⟩, kd, q⟩ := h
  refine ⟨_, (pss_one (ps_ret (pe_and (pe_callB call_isi (by rfl) T.nisinstance (by decide +kernel) (pa_cons (pv 1) (pa_cons (pe_bltn (v := .ty "int") (u := .type "int") (by rfl) T.nint (by decide +kernel) rfl) pa_nil))) (pe_and (pe_not (pe_callB call_isi (by rfl) T.nisinstance (by decide +kernel) (pa_cons (pv 1) (pa_cons (pe_bltn (v := .ty "bool") (u := .type "bool") (by rfl) T.nbool (by decide +kernel) rfl) pa_nil)))) (pe_one (pe_chain op_le op_lt pe_int (pv 1) (pe_callB call_len_seq (by rfl) T.nlen (by decide +kernel) (pa_cons (pe_fld (pv 0) rfl) pa_nil)))))))), ?_⟩
  have hl := pl.length
  obtain ⟨b, c, h1, h2, h3, h4, h5⟩ := kint (K := K) kd
  refine ⟨_, rfl, _, _, _, _, b, rfl, .ty _, kd.ty, h1, b, rfl, ite2 (fun e => ?_) (fun e => ?_)⟩
  · subst e
    refine ⟨_, rfl, _, _, _, _, c, rfl, .ty _, kd.ty, h2, c, rfl, !c, rfl, ite2 (fun e => ?_) (fun e => ?_)⟩
    · have hv : isI v = true := by rw [← h3, Bool.true_and]; exact e
      cases v with
      | int i =>
        refine ⟨_, rfl, _, _, rfl, rfl, _, rfl, ite2 (fun e1 => ?_) (fun e1 => ?_)⟩
        · refine ⟨_, rfl, a, CA, dx, _, _, rfl, ha, A.c, A.nl, rfl, la, _, rfl, .inr (sqt hla), _, _, rfl, rfl, ?_⟩
          have e2 : letB (.int i) (ls.length : Nat) = decide (i < (lvs.length : Nat)) := by
            have := of_decide_eq_true e1
            rw [hl]
            simp [letB, this]
          rw [e2] at q
          exact q
        · have e2 : letB (.int i) (ls.length : Nat) = false := by
            have : ¬ (0 ≤ i) := fun z => e1 (decide_eq_true z)
            simp [letB, this]
          rw [e2] at q
          exact q
      | _ => cases hv
    · have hv : isI v = false := by rw [← h3, Bool.true_and]; exact Bool.eq_false_iff.mpr e
      have e2 : letB v (ls.length : Nat) = false := by
        cases v <;> first | rfl | cases hv
      rw [e2] at q
      exact q
  · have hv : isI v = false := h4 (Bool.eq_false_iff.mpr e)
    have e2 : letB v (ls.length : Nat) = false := by
      cases v <;> first | rfl | cases hv
    rw [e2] at q
    exact q
theorem sc_look : FnScope ["audience", "rows"] ["audience", "rows"] (defScope (topS 36)) := ⟨rfl, rfl, rfl, by decide +kernel, rfl, by decide +kernel, by decide +kernel⟩
def sp_look (TT : List Addr) (CA CM : Addr) : Sp := fun vs H Q E => ∃ av v p n ls b, vs = [av, v] ∧ AuO CA H av p n ls ∧ MatR H p n v b ∧ Tabs TT H ∧ (b = true → ∀ H', Ext TT [] H H' → Q .non H') ∧
  (b = false → ∀ H' d, Ext TT [] H H' → H d = none → H' d = some (.xd [("value", v)]) → E (.ref CM) (some d) H')
theorem c_look (F : ∃ f fd, FunAt K mg "look_at_rows" "look_at_rows" (topS 36) f fd) (T : Bl K mg) (A : AuC K mg CA) (U : EC K mg "InvalidMatrix" "InvalidMatrix.__init__" "value" (methS 4) CM) (Cis_matrix : Cal P w K mg base CX0 "is_matrix" 5 ["value", "p", "columns"] (sp_is_matrix TT)) :
    Cal P w K mg base (L2N.CX P w) "look_at_rows" 6 ["audience", "rows"] (sp_look TT CA CM) := by
  have SC := sc_look
  obtain ⟨fI, fdI, iC, tI, FI⟩ := U.ini
  refine cal_ofX F sc_look (fun _ _ _ _ _ _ us hl => match us, hl with | [_, _], _ => rfl) (fun vs H Q E h => by obtain ⟨av, v, p, n, ls, b, rfl, _⟩ := h; rfl) fun f cdv A' outer s H vs Q E hr h => ?_
  obtain ⟨av, v, p, n, ls, b, rfl, ⟨a, dx, l, rfl, ha, hls⟩, hM, tb, qS, qU⟩ := h
  refine ⟨_, (pss_one (ps_if (pt_not (pt_val (pe_cal (E := E0) Cis_matrix hr (by decide) (by rfl) pass0 (pa_cons (pv 1) (pa_cons (pe_fld (pv 0) rfl) (pa_cons (pe_fld (pv 0) rfl) pa_nil)))))) (pss_one (L2N.ps_raise (W := fun cls d _ H => E cls d H) rfl (L2N.takes_of rfl rfl rfl rfl) (pmkN U.T iC tI (iniInvalidMatrix (C := CM) FI) (hr.mono (by decide)) (biInvalidMatrix FI) (by rfl) U.g (pa_cons (pv 1) pa_nil)))) pss_nil)), ?_⟩
  refine ⟨_, rfl, _, rfl, a, CA, dx, _, _, rfl, ha, A.c, A.np, rfl, _, rfl, a, CA, dx, _, _, rfl, ha, A.c, A.nsz, rfl, v, p, n, b, rfl, tb, hM, fun H1 x1 => ⟨b, rfl, ite2 (fun e => ?_) (fun e => ?_)⟩⟩
  · have eb : b = false := by simpa using e
    exact ⟨_, rfl, made U.T U.nf fun d hd => qU eb _ d (x1.trans (.new hd)) (x1.dom _ hd) upd_same⟩
  · have eb : b = true := by simpa using e
    exact qS eb H1 x1
end
end K17
end

section
set_option linter.all false
set_option maxRecDepth 100000
set_option maxHeartbeats 2000000
namespace K17
open PySem PySem.Spec PyProof.Rows L2 G17 M17
open GxR (TabG Tabbed)
theorem cat_mx {K : PySem.W.Frag} {TT : List Addr} {H : Hp} {v u : V} {R kn : List M17.Row} {Q : VK} (hv : Mx H v R) (hk : Mx H u kn) (hz : (R ++ kn).length ≤ 1000) (h : ∀ H' y, Ext TT [] H H' → Mx H' y (R ++ kn) → Q y H') : rCatA K v u H Q := by
  obtain ⟨a, xs, rfl, ha, px⟩ := hv
  obtain ⟨b, ys, rfl, hb, py⟩ := hk
  rw [List.length_append] at hz
  refine ⟨a, b, xs, ys, rfl, rfl, sqt ha, sqt hb, sz1000 (by rw [px.length, py.length]; omega), fun z => ?_, fun _ z => ?_, fun _ _ p hp => ?_⟩
  · subst z
    cases px
    exact h _ _ (.refl H) ⟨b, ys, rfl, hb, py⟩
  · subst z
    cases py
    exact h _ _ (.refl H) ⟨a, xs, rfl, ha, by rw [List.append_nil]; exact px⟩
  · have x : Ext TT [] H (upd H p (.tup (xs ++ ys))) := .new hp
    exact h _ _ x ⟨p, _, rfl, upd_same, paired_append (L2.Paired.mapP px fun _ _ q => q.mono x) (L2.Paired.mapP py fun _ _ q => q.mono x)⟩
/-- the try's reading, kept as one word -/
def tTryX (tb : WX → TS) (wf : Ends → WX) : TS := fun D σ H => tb (wf D) D σ H
theorem ps_tryX {X : Cx} {x : Str} {c : Value} {body suite : List Stmt} {b₀ : Stmt} {np pos pos' : Pos} {tb : WX → TS} {ts : Addr → Value → Option Addr → TS} {Wout : WX} (hs : X.stack = X.env :: X.outer) (hf : X.env.frame = some X.env.locals) (hc : Names X x c)
    (hpa : ∀ hd : Option Value, PassesOwnAt (model X.prog X.w) (X.A.mark hd) X.A X.env X.xe) (tk : L2.Takes X Wout)
    (hb : ∀ (W : WX) (pn : List (Addr × Obj)) (xe : Value → Shared → Prop), L2N.Takes (X.tr pn xe) W → PSs (X.tr pn xe) body (tb W))
    (hsu : ∀ (a : Addr) (oe : Obj) (cls : Value) (d : Option Addr) (pn : List (Addr × Obj)), L2.Takes (L2H.suiteX X a ((a, oe) :: pn)) Wout → L2H.HotC (L2H.suiteX X a ((a, oe) :: pn)) → PSs (L2H.suiteX X a ((a, oe) :: pn)) (b₀ :: suite) (ts a cls d)) :
    PS X (.Try body [.ExceptHandler (some (.Name x np)) none (b₀ :: suite) pos'] [] [] pos) (tTryX tb (wOnly X.K c ts Wout)) :=
  L2H.ps_try_onlyX hs hf hc hpa tk (fun W pn xe t _ _ => hb W pn xe t) (fun a oe cls d pn _ _ t h => hsu a oe cls d pn t h)
section
variable {P : Program} {w : World} {K : PySem.W.Frag} {mg : Str → Option Value} {base : Heap} {TT : List Addr} {CA CN CM CU : Addr}
theorem sc_dec : FnScope ["audience", "telling", "listener", "knows", "wants", "found", "row"] ["audience", "telling", "listener"] (defScope (topS 37)) := ⟨rfl, rfl, rfl, by decide +kernel, rfl, by decide +kernel, by decide +kernel⟩
/-- refused: no matrix, or no listener -/
def sp_decA (TT : List Addr) (CA CN CM : Addr) : Sp := fun vs H Q E => ∃ av v lv p n ls, vs = [av, v, lv] ∧ AuO CA H av p n ls ∧ Tabs TT H ∧
  ((MatR H p n v false ∧ ∀ H' d, Ext TT [] H H' → H d = none → H' d = some (.xd [("value", v)]) → E (.ref CM) (some d) H') ∨
   (MatR H p n v true ∧ (∃ t, Kd H lv t) ∧ letB lv (ls.length : Nat) = false ∧ ∀ H' d, Ext TT [] H H' → H d = none → H' d = some (.xd [("value", lv)]) → E (.ref CN) (some d) H'))
theorem c_decA (F : ∃ f fd, FunAt K mg "decoder_of" "decoder_of" (topS 37) f fd) (T : Bl K mg) (A : AuC K mg CA) (U : EC K mg "InvalidNumber" "InvalidNumber.__init__" "value" (methS 3) CN) (Clook_at_rows : Cal P w K mg base (L2N.CX P w) "look_at_rows" 6 ["audience", "rows"] (sp_look TT CA CM))
    (Cis_listener_tellings : Cal P w K mg base CX0 "is_listener_tellings" 1 ["audience", "value"] (sp_is_lt CA)) :
    Cal P w K mg base (L2N.CX P w) "decoder_of" 8 ["audience", "telling", "listener"] (sp_decA TT CA CN CM) := by
  have SC := sc_dec
  obtain ⟨fI, fdI, iC, tI, FI⟩ := U.ini
  refine cal_ofX F sc_dec (fun _ _ _ _ _ _ us hl => match us, hl with | [_, _, _], _ => rfl) (fun vs H Q E h => by obtain ⟨av, v, lv, p, n, ls, rfl, _⟩ := h; rfl) fun f cdv A' outer s H vs Q E hr h => ?_
  obtain ⟨av, v, lv, p, n, ls, rfl, hA, tb, hcase⟩ := h
  have tk : L2N.Takes (cxOf (L2N.CX P w) P w K mg base ["audience", "telling", "listener", "knows", "wants", "found", "row"] "decoder_of" (defScope (topS 37)) f cdv A' outer s H E) (fun cls d _ H => E cls d H) := L2N.takes_of rfl rfl rfl rfl
  refine ⟨_, (pss_cons (ps_expr (pe_calS (E := WE fun cls d _ H => E cls d H) Clook_at_rows hr (by decide) (by rfl) (passN tk) (pa_cons (pv 0) (pa_cons (pv 1) pa_nil))))
    (pss_cons (ps_if (pt_not (pt_val (pe_cal (E := E0) Cis_listener_tellings hr (by decide) (by rfl) pass0 (pa_cons (pv 0) (pa_cons (pv 2) pa_nil))))) (pss_one (L2N.ps_raise rfl tk (pmkN U.T iC tI (iniInvalidNumber (C := CN) FI) (hr.mono (by decide)) (biInvalidNumber FI) (by rfl) U.g (pa_cons (pv 2) pa_nil)))) pss_nil)
    (pss_cons ps_never (pss_cons ps_never (pss_cons ps_never (pss_one ps_never)))))), ?_⟩
  rcases hcase with ⟨hM, q⟩ | ⟨hM, ⟨t, kd⟩, hb, q⟩
  · exact ⟨_, rfl, _, rfl, av, v, p, n, ls, false, rfl, hA, hM, tb, (fun z => Bool.noConfusion z), fun _ H' d x hd e => q H' d x hd e⟩
  · refine ⟨_, rfl, _, rfl, av, v, p, n, ls, true, rfl, hA, hM, tb, (fun _ H1 x1 => ?_), fun z => Bool.noConfusion z⟩
    refine ⟨_, rfl, _, rfl, av, lv, t, p, n, ls, rfl, hA.mono (M := []) x1, kd.mono (M := []) x1, ?_⟩
    rw [hb]
    exact ⟨false, rfl, iteT ⟨_, rfl, made U.T U.nf fun d hd => q _ d (x1.trans (.new hd)) (x1.dom _ hd) upd_same⟩⟩
/-- L decodes W by R -/
def Dec (p : Int) (n : Nat) (R : List M17.Row) (L : List Int) (W : M17.Row) : Prop := L.length = R.length ∧ (∀ x ∈ L, 0 ≤ x ∧ x < p) ∧ ∀ j, j < n → dotF (fun k => L.getD k 0) R j % p = g W j
/-- a listener's decoder, or Undefined of "decoder" -/
def sp_decB (TT : List Addr) (CA CU : Addr) : Sp := fun vs H Q E => ∃ av v p n ls k kn wt R, vs = [av, v, .int ((k : Nat) : Int)] ∧ isP p ∧ 1 ≤ n ∧ n ≤ 5 ∧ AuO CA H av p ((n : Nat) : Int) ls ∧ ls[k]? = some (kn, wt) ∧ Mx H v R ∧ OkM p n R ∧ OkM p n kn ∧ OkM p n wt ∧
  (R ++ kn).length ≤ 100 ∧ wt.length ≤ 1000 ∧ Tabs TT H ∧
  ((∀ W ∈ wt, Sp p n (R ++ kn) (g W)) → ∀ H' y Ls, Ext TT [] H H' → Mx H' y Ls → Paired (Dec p n (R ++ kn)) Ls wt → Q y H') ∧
  ((∃ W ∈ wt, ¬ Sp p n (R ++ kn) (g W)) → ∀ H' d, Ext TT [] H H' → H' d = some (.xd [("what", .str "decoder")]) → E (.ref CU) (some d) H')
theorem c_decB (F : ∃ f fd, FunAt K mg "decoder_of" "decoder_of" (topS 37) f fd) (T : Bl K mg) (A : AuC K mg CA) (U : EC K mg "Undefined" "Undefined.__init__" "what" (methS 17) CU) (Clook_at_rows : Cal P w K mg base (L2N.CX P w) "look_at_rows" 6 ["audience", "rows"] (sp_look TT CA CM))
    (Cis_listener_tellings : Cal P w K mg base CX0 "is_listener_tellings" 1 ["audience", "value"] (sp_is_lt CA)) (Csum_to : Cal P w K mg base (L2N.CX P w) "sum_to" 7 ["p", "rows", "row"] (sp_sum_to TT CU)) :
    Cal P w K mg base (L2.CX P w) "decoder_of" 8 ["audience", "telling", "listener"] (sp_decB TT CA CU) := by
  have SC := sc_dec
  obtain ⟨fI, fdI, iC, tI, FI⟩ := U.ini
  refine cal_ofX F sc_dec (fun _ _ _ _ _ _ us hl => match us, hl with | [_, _, _], _ => rfl) (fun vs H Q E h => by obtain ⟨av, v, p, n, ls, k, kn, wt, R, rfl, _⟩ := h; rfl) fun f cdv A' outer s H vs Q E hr h => ?_
  obtain ⟨av, v, p, n, ls, k, kn, wt, R, rfl, hp, n1, n5, hA, hk, hv, okR, okk, okw, hz, hzw, tb, qS, qU⟩ := h
  have tk : L2.Takes (cxOf (L2.CX P w) P w K mg base ["audience", "telling", "listener", "knows", "wants", "found", "row"] "decoder_of" (defScope (topS 37)) f cdv A' outer s H E) (fun cls d _ H => E cls d H) := L2.takes_of rfl rfl rfl rfl
  refine ⟨_, (pss_cons (ps_expr (pe_cal (E := E0) Clook_at_rows hr (by decide) (by rfl) passN0 (pa_cons (pv 0) (pa_cons (pv 1) pa_nil))))
    (pss_cons (ps_if (pt_not (pt_val (pe_cal (E := E0) Cis_listener_tellings hr (by decide) (by rfl) pass0 (pa_cons (pv 0) (pa_cons (pv 2) pa_nil))))) (pss_one ps_never) pss_nil)
    (pss_cons (ps_asg (pe_ix ix_tup (pe_fld (pv 0) rfl) (pv 2) (fun _ _ => rfl)) (pg_pair (K := K) (i := 3) (j := 4) rfl rfl SC.nd rfl rfl (.inl rfl) (.inl rfl) (.inr rfl) (.inr rfl)))
    (pss_cons (ps_set (i := 5) SC.nd rfl (.inl rfl) (pe_lst pa_nil))
    (pss_cons (ps_for PassesOwn.leaving rfl (pi_tup (pv 4)) (pg_name (i := 6) SC.nd rfl (.inl rfl)) (pss_one
      (ps_tryX (x := "Undefined") (c := .ref CU) rfl rfl ⟨by rfl, by decide, .inl U.g⟩ (L2H.passesAt_of rfl) tk
        (by intro W pn xe tkb; exact (pss_one (ps_expr (bmK (K := K) rfl (pe_bm PySem.F.plainAttrs_list PySem.F.slot_list_append PySem.F.type_list_append mt_append (pv 5) (pa_cons (pe_calS (E := WE W) Csum_to hr (by decide) (by rfl) (passN tkb) (pa_cons (fldK (K := K) rfl (pe_fld (pv 0) rfl)) (pa_cons (pe_op (op_catAK (K := K) rfl) (pv 1) (pv 3)) (pa_cons (pv 6) pa_nil)))) pa_nil))))))
        (by intro a oe cls d pn tkx hot; exact (pss_one (L2H.ps_raiseHN hot tkx (L2H.pmk5_oexH U.T iC tI (iniHUndefined (C := CU) FI) (L2H.roomH_mark (hr.mono (by decide)) _) hot (biUndefined FI) pass0 (by rfl) U.g (pa_cons pe_str pa_nil))))))))
    (pss_one (ps_ret (pe_callTy call_tuple_of (by rfl) T.ntuple (by decide +kernel) (pa_cons (pv 5) pa_nil))))))))), ?_⟩
  obtain ⟨a, dx, l, rfl, ha, ⟨la, lvs, rfl, hla, pl⟩⟩ := hA
  have hA0 : AuO CA H (.ref a) p ((n : Nat) : Int) ls := ⟨a, dx, _, rfl, ha, la, lvs, rfl, hla, pl⟩
  have hkl : k < ls.length := (List.getElem?_eq_some_iff.mp hk).1
  refine ⟨_, rfl, _, rfl, .ref a, v, p, n, ls, true, rfl, hA0, .mx hv okR, tb, (fun _ H1 x1 => ?_), fun z => Bool.noConfusion z⟩
  refine ⟨_, rfl, _, rfl, .ref a, .int ((k : Nat) : Int), _, p, n, ls, rfl, hA0.mono (M := []) x1, .int _, ?_⟩
  have hb : letB (.int ((k : Nat) : Int)) (ls.length : Nat) = true := decide_eq_true (show 0 ≤ (k : Int) ∧ (k : Int) < (ls.length : Nat) by omega)
  rw [hb]
  refine ⟨true, rfl, iteF ?_⟩
  obtain ⟨lv, hlv, hL⟩ := paired_get' pl hk
  obtain ⟨b, kv, uv, rfl, hbL, hkn, hwt⟩ := hL.mono x1
  have ha1 := x1.ins (by simp) ha
  refine ⟨_, rfl, a, CA, dx, _, _, rfl, ha1, A.c, A.nl, rfl, _, rfl, la, _, _, _, rfl, rfl, sqt (x1.tup _ _ hla), atI_nat hlv, ?_⟩
  refine ⟨b, _, rfl, sqt hbL, rfl, _, _, rfl, _, _, rfl, rfl, ?_⟩
  refine ⟨Nat.zero_le _, fun fd hfd => ?_⟩
  obtain ⟨wa, wvs, rfl, hwa, pw⟩ := hwt
  have nfd : H fd = none := x1.dom _ hfd
  have x2 : Ext TT [] H (upd H1 fd (.lst [])) := x1.trans (.new hfd)
  have okk2 : OkM p n (R ++ kn) := fun r hr => (List.mem_append.mp hr).elim (okR r) (okk r)
  have exm : PySem.W.exmOne K (.ref CU) (.ref CU) = some true := PySem.W.exm_ref U.T.exC U.xf.hdC U.T.tyC U.sub
  refine ⟨_, rfl, wa, rfl, ⟨_, sqt ((Ext.new (T := TT) (M := []) hfd).tup _ _ hwa)⟩, for_tup (fun i σ H' => (∃ y6, σ = [some (.ref a), some v, some (.int ((k : Nat) : Int)), some kv, some (.ref wa), some (.ref fd), y6]) ∧ Ext TT [] H H' ∧ H' wa = some (.tup wvs) ∧ Mx H' kv kn ∧ Paired (Rw H') wvs wt ∧
    (∃ vs Ls, H' fd = some (.lst vs) ∧ Paired (Rw H') vs Ls ∧ Paired (Dec p n (R ++ kn)) Ls (wt.take i)) ∧ ∀ W ∈ wt.take i, Sp p n (R ++ kn) (g W))
    ⟨⟨_, rfl⟩, x2, (Ext.new (T := TT) (M := []) hfd).tup _ _ hwa, hkn.mono (.new (T := TT) (M := []) hfd), L2.Paired.mapP pw fun _ _ q => q.mono (.new (T := TT) (M := []) hfd), ⟨[], [], upd_same, .nil, .nil⟩, fun W hW => by simp at hW⟩ (fun i σ H' _ h => sqt h.2.2.1) ?_ ?_⟩
  · rintro i x σ H3 hx ⟨⟨y6, rfl⟩, x3, hwa3, hkn3, pw3, ⟨vs, Ls, hfd3, pL, pD⟩, hsp⟩
    obtain ⟨W, hW, rwW⟩ := paired_get pw3 hx
    have hv3 := hv.mono x3
    have memW : W ∈ wt := List.mem_of_getElem? hW
    have ha3 := x3.ins (by simp) ha
    refine ⟨_, rfl, .inl ⟨rfl, _, sql hfd3⟩, _, rfl, a, CA, dx, _, _, rfl, ha3, A.c, A.np, rfl, _, rfl, _, rfl, cat_mx (TT := TT) hv3 hkn3 (by omega) fun H5 y x5 hy => ?_⟩
    have x35 := x3.trans x5
    refine ⟨_, rfl, y, x, p, n, R ++ kn, W, rfl, hp, n1, n5, hz, okk2, okw W memW, hy, rwW.mono x5, x35.tabs tb, ?_, ?_⟩
    · intro hs H6 y6 L x6 hy6 l1 l2 l3
      have hfd6 := x6.lst (x5.lst hfd3)
      have x56 := x5.trans x6
      have lD := pD.length
      refine ⟨fd, vs, y6, rfl, rfl, hfd6, lz1000 (by rw [pL.length, lD, List.length_take]; omega), ?_⟩
      have u6 : ∀ b xs, H6 b = some (.tup xs) → upd H6 fd (.lst (vs ++ [y6])) b = some (.tup xs) := fun b xs hb => tup_upd hfd6 (fun xs z => by cases z) hb
      refine ⟨⟨_, rfl⟩, (x35.trans x6).mut nfd, u6 _ _ (x56.tup _ _ hwa3), ?_, ?_, ⟨_, Ls ++ [L], upd_same, ?_, ?_⟩, ?_⟩
      · obtain ⟨b, vs, e, hb, pr⟩ := hkn3.mono x56
        exact ⟨b, vs, e, u6 _ _ hb, L2.Paired.mapP pr fun _ _ ⟨b, e, hb⟩ => ⟨b, e, u6 _ _ hb⟩⟩
      · exact L2.Paired.mapP pw3 fun _ _ q => by
          obtain ⟨b, e, hb⟩ := q.mono x56
          exact ⟨b, e, u6 _ _ hb⟩
      · refine paired_append (L2.Paired.mapP pL fun _ _ q => ?_) (.cons ?_ .nil)
        · obtain ⟨b, e, hb⟩ := q.mono x56
          exact ⟨b, e, u6 _ _ hb⟩
        · obtain ⟨b, e, hb⟩ := hy6
          exact ⟨b, e, u6 _ _ hb⟩
      · rw [take_succ_of hW]
        exact paired_append pD (.cons ⟨l1, l2, l3⟩ .nil)
      · intro W2 hW2
        rw [take_succ_of hW] at hW2
        rcases List.mem_append.mp hW2 with z | z
        · exact hsp _ z
        · rw [List.mem_singleton.mp z]; exact hs
    · intro hs H6 d x6 hd0 hd
      exact ⟨true, exm, fun _ a2 ha2 => made U.T U.nf fun d2 hd2 => qU ⟨W, memW, hs⟩ _ d2 ((x35.trans x6).trans (.new hd2)) upd_same, fun z => Bool.noConfusion z⟩
  · rintro σ H3 ⟨⟨y6, rfl⟩, x3, hwa3, hkn3, pw3, ⟨vs, Ls, hfd3, pL, pD⟩, hsp⟩
    have t0 : wt.take wvs.length = wt := List.take_of_length_le (by rw [pw.length]; exact Nat.le_refl _)
    rw [t0] at pD hsp
    refine ⟨_, rfl, fd, vs, rfl, .inl ⟨sql hfd3, fun l hl => qS hsp _ _ Ls (x3.trans (.new hl)) ⟨l, vs, rfl, upd_same, L2.Paired.mapP pL fun _ _ q => q.mono (.new (T := TT) (M := []) hl)⟩ pD⟩⟩
end
end K17
end

section
set_option linter.all false
set_option maxRecDepth 100000
set_option maxHeartbeats 2000000
namespace K17
open PySem PySem.Spec PyProof.Rows L2 G17 M17
open GxR (TabG Tabbed)
theorem kitLT {K : PySem.W.Frag} {H : Hp} {v : V} {t : String} (h : Kd H v t) : PySem.W.kitAny K (.type t) [.type "list", .type "tuple"] = some (decide (t = "list") || decide (t = "tuple")) := by
  have h1 := kdList (K := K) h
  have h2 := ktup (K := K) h
  refine kitAny_cons h1 (fun e => ?_) (fun e => by rw [e]; rfl)
  rw [e, Bool.false_or]
  exact kitAny_cons h2 (fun e2 => by rw [e2]; rfl) (fun e2 => e2)
section
variable {P : Program} {w : World} {K : PySem.W.Frag} {mg : Str → Option Value} {base : Heap} {TT : List Addr} {CA : Addr} {fI : Addr} {fd : FuncData}
theorem sc_aud : FnScope ["self", "p", "size", "listeners", "at", "listener"] ["self", "p", "size", "listeners"] (defScope (methS 41)) := ⟨rfl, rfl, rfl, by decide +kernel, rfl, by decide +kernel, by decide +kernel⟩
def sp_aud (TT : List Addr) (CA : Addr) : Sp := fun vs H Q _ => ∃ x dx lv p n ls, vs = [.ref x, .int p, .int ((n : Nat) : Int), lv] ∧ isP p ∧ 1 ≤ n ∧ n ≤ 5 ∧ H x = some (.ins CA dx []) ∧ Lss H lv ls ∧ (∀ l ∈ ls, OkM p n l.1 ∧ OkM p n l.2) ∧ Tabs TT H ∧
  ∀ H1 H', Ext TT [] H H1 → H' x = some (.ins CA dx [("p", .int p), ("size", .int ((n : Nat) : Int)), ("listeners", lv)]) → (∀ b, b ≠ x → H' b = H1 b) → Q .non H'
theorem c_aud (F : FunD K "__init__" "Audience.__init__" (defArgs (methS 41)) (defBody (methS 41)) (defScope (methS 41)) [] [] fI fd) (A : AuC K mg CA) (T : Bl K mg) (Cis_field : Cal P w K mg base CX0 "is_field" 1 ["p"] sp_is_field) (Cis_letter : Cal P w K mg base CX0 "is_letter" 1 ["value", "p"] sp_is_letter)
    (Cis_listener_audiences : Cal P w K mg base CX0 "is_listener_audiences" 7 ["value", "p", "size"] (sp_is_lis TT)) : FnOk P w K mg base CX0 8 fI fd ["self", "p", "size", "listeners"] (sp_aud TT CA) := by
  have SC := sc_aud
  obtain ⟨tM, hM⟩ := T.most
  refine F.ok sc_aud (fun vs H Q E h => by obtain ⟨x, dx, lv, p, n, ls, rfl, _⟩ := h; rfl) fun cdv A' outer s H vs Q E hr h => ?_
  obtain ⟨x, dx, lv, p, n, ls, rfl, hp, n1, n5, hx, hls, okl, tb, q⟩ := h
  suffices hh : ∃ t, PSs (cxOf CX0 P w K mg base ["self", "p", "size", "listeners", "at", "listener"] "Audience.__init__" (defScope (methS 41)) fI cdv A' outer s H E).nox (defBody (methS 41)) t ∧ t { nx := fun _ H' => Q .non H', rt := Q } (L2.start ["self", "p", "size", "listeners", "at", "listener"] [.ref x, .int p, .int ((n : Nat) : Int), lv]) H from let ⟨t, a, b⟩ := hh; ⟨t, a.nox, b⟩
  refine ⟨_, (pss_cons (ps_if (pt_not (pt_val (pe_cal (E := E0) Cis_field hr (by decide) (by rfl) pass0 (pa_cons (pv 1) pa_nil)))) (pss_one ps_never) pss_nil)
    (pss_cons (ps_if (PW.pt (pw_or (pt_not (pt_val (pe_cal (E := E0) Cis_letter hr (by decide) (by rfl) pass0 (pa_cons (pv 2) (pa_cons (pe_op op_add (pe_glob (v := .int 12) (by rfl) hM ⟨_, rfl⟩) pe_int) pa_nil))))) (pw_or1 (pt_cmpR op_eq (pv 2) pe_int (nomark _))))) (pss_one ps_never) pss_nil)
    (pss_cons (ps_if (pt_not (pt_val (pe_callB call_isiT (by rfl) T.nisinstance (by decide +kernel) (pa_cons (pv 3) (pa_cons (pe_tup (pa_cons (pe_bltn (v := .ty "list") (u := .type "list") (by rfl) T.nlist (by decide +kernel) rfl) (pa_cons (pe_bltn (v := .ty "tuple") (u := .type "tuple") (by rfl) T.ntuple (by decide +kernel) rfl) pa_nil))) pa_nil))))) (pss_one ps_never) pss_nil)
    (pss_cons (ps_for PassesOwn.never rfl (pi_enumT (by rfl) T.nenumerate (pa_cons (pv 3) pa_nil)) (pg_tup rfl (pgs_cons (pg_name (i := 4) SC.nd rfl (.inl rfl)) (pgs_cons (pg_name (i := 5) SC.nd rfl (.inl rfl)) pgs_nil))) (pss_one (ps_if (pt_not (pt_val (pe_cal (E := E0) Cis_listener_audiences hr (by decide) (by rfl) pass0 (pa_cons (pv 5) (pa_cons (pv 1) (pa_cons (pv 2) pa_nil)))))) (pss_one ps_never) pss_nil)))
    (pss_cons (ps_fld (pv 0) (pv 1) rfl)
    (pss_cons (ps_fld (pv 0) (pv 2) rfl)
    (pss_one (ps_fld (pv 0) (pe_callTy call_tuple_of (by rfl) T.ntuple (by decide +kernel) (pa_cons (pv 3) pa_nil)) rfl)))))))), ?_⟩
  refine ⟨_, rfl, p, rfl, hp, true, rfl, iteF ?_⟩
  refine ⟨_, rfl, _, _, rfl, rfl, .int n, _, _, rfl, .int _, ?_⟩
  have hb : letB (.int ((n : Nat) : Int)) (12 + 1) = true := decide_eq_true (show 0 ≤ (n : Int) ∧ (n : Int) < 12 + 1 by omega)
  refine ⟨true, congrArg V.bl hb, iteF ⟨_, rfl, rfl, _, rfl, ite2 (fun e => ?_) (fun _ => ?_)⟩⟩
  · exact absurd (V.int.inj (of_decide_eq_true e)) (by omega)
  obtain ⟨la, lvs, rfl, hla, pl⟩ := hls
  refine ⟨_, rfl, by show 2 ≤ sizeLine; decide, fun tp htp => ?_⟩
  have xt : Ext TT [] H (upd H tp (.tup [.ty "list", .ty "tuple"])) := .new htp
  refine ⟨_, tp, _, _, _, _, rfl, upd_same, .cons (.ty _) (.cons (.ty _) .nil), (Kd.tup (xt.tup _ _ hla)).ty, kitLT (Kd.tup (xt.tup _ _ hla)), true, rfl, iteF ?_⟩
  refine ⟨_, rfl, la, _, rfl, sqt (xt.tup _ _ hla), for_it walk_enumT (fun i σ H' => (∃ y4 y5, σ = [some (.ref x), some (.int p), some (.int ((n : Nat) : Int)), some (.ref la), y4, y5]) ∧ Ext TT [] H H') ⟨⟨_, _, rfl⟩, xt⟩ (fun i σ H' _ h => sqt (h.2.tup _ _ hla)) ?_ ?_⟩
  · rintro i v σ H3 H4 hi ⟨⟨y4, y5, rfl⟩, x3⟩ ⟨D, y1, y2, rfl, hD, rfl, e1, e2⟩
    cases e1
    have x4 : Ext TT [] H (upd H3 D (.tup [.int (i : Nat), y2])) := x3.trans (.new hD)
    obtain ⟨l, hl, hL⟩ := paired_get pl e2
    obtain ⟨o1, o2⟩ := okl l (List.mem_of_getElem? hl)
    refine ⟨D, _, rfl, sqt upd_same, rfl, _, _, rfl, _, _, rfl, rfl, ?_⟩
    exact ⟨_, rfl, _, rfl, _, rfl, y2, p, n, l, rfl, x4.tabs tb, hL.mono x4, o1, o2, fun H5 x5 => ⟨true, rfl, iteF ⟨⟨_, _, rfl⟩, x4.trans x5⟩⟩⟩
  · rintro σ H3 ⟨⟨y4, y5, rfl⟩, x3⟩
    have hx3 := x3.ins (by simp) hx
    refine ⟨_, rfl, _, rfl, x, CA, dx, _, rfl, hx3, A.c, A.np, by show 0 < 1000; decide, ?_⟩
    refine ⟨_, rfl, _, rfl, x, CA, dx, _, rfl, upd_same, A.c, A.nsz, by show 1 < 1000; decide, ?_⟩
    have u : ∀ b o o', b ≠ x → upd (upd H3 x o) x o' b = H3 b := fun b o o' hb => by rw [upd_ne hb, upd_ne hb]
    have nl : (la : Nat) ≠ x := fun z => by rw [show la = x from z, hx] at hla; cases hla
    refine ⟨_, rfl, la, lvs, rfl, .inr ⟨sqt (by rw [u _ _ _ nl]; exact x3.tup _ _ hla), ?_⟩⟩
    refine ⟨_, rfl, x, CA, dx, _, rfl, upd_same, A.c, A.nl, by show 2 < 1000; decide, ?_⟩
    exact q _ _ x3 upd_same fun b hb => by rw [upd_ne hb]; exact u _ _ _ hb
end
end K17
end

section
set_option linter.all false
set_option maxRecDepth 100000
set_option maxHeartbeats 2000000
namespace K17
open PySem PySem.Spec PyProof.Rows L2 G17 M17
open GxR (TabG Tabbed)
/-- a range walked with a break: where it goes on -/
theorem for_rangeB {lo : Int} {n : Nat} {g : TG} {tb : TS} {D : Ends} {σ : L2.St} {H : Hp} (Pc : L2.St → Hp → Prop) (Pv : Nat → L2.St → Hp → Prop) (cont : ∀ σ H, Pc σ H → D.nx σ H) (h0 : Pv 0 σ H) (hd : ∀ σ H, Pv n σ H → Pc σ H)
    (hs : (∀ σ H, Pc σ H → D.nx σ H) → ∀ i σ H, i < n → Pv i σ H → g (.int (lo + i)) σ H fun σ2 H2 => tb { D with nx := Pv (i + 1), ct := Pv (i + 1), bk := D.nx } σ2 H2) :
    ∃ W : Nat → Nat → L2.St → Hp → Prop, (∃ m, W 0 m σ H) ∧ ∀ i m σ H, W i m σ H →
      ((Itr lo n).stop i H ∧ D.nx σ H) ∨ ((Itr lo n).go i H ∧ ∃ N : L2.St → Hp → Prop, (∀ σ' H', N σ' H' → ∃ m', m' < m ∧ W (i + 1) m' σ' H') ∧ ∀ x H', (Itr lo n).yld i H x H' → g x σ H' fun σ2 H2 => tb { D with nx := N, ct := N, bk := D.nx } σ2 H2) :=
  for_range Pv h0 (hs cont) (fun σ H p => cont σ H (hd σ H p))
/-- a list of small ints, at most b of them -/
def PoolB (H : Hp) (l : Addr) (b : Nat) : Prop := ∃ ns : List Int, H l = some (.lst (ns.map V.int)) ∧ (∀ z ∈ ns, 0 ≤ z ∧ z < 2520) ∧ ns.length ≤ b
theorem PoolB.weak {H : Hp} {l : Addr} {b c : Nat} (h : PoolB H l b) (hb : b ≤ c) : PoolB H l c := let ⟨ns, h1, h2, h3⟩ := h; ⟨ns, h1, h2, Nat.le_trans h3 hb⟩
theorem PoolB.push {H : Hp} {l : Addr} {b : Nat} {x : Int} {Q : VK} {σ : L2.St} (h : PoolB H l b) (hb : b ≤ 100000) (q : ∀ o, PoolB (upd H l o) l (b + 1) → Q .non (upd H l o)) : tNil σ H fun xs H2 => rAppend (.ref l) (.int (x % 2520) :: xs) H2 Q := by
  obtain ⟨ns, h1, h2, h3⟩ := h
  refine ⟨l, _, _, rfl, rfl, h1, by rw [List.length_map]; exact Nat.lt_of_le_of_lt h3 (lz1000 hb), q _ ⟨ns ++ [x % 2520], ?_, ?_, ?_⟩⟩
  · rw [List.map_append]; exact upd_same
  · intro z hz
    rcases List.mem_append.mp hz with e | e
    · exact h2 z e
    · rw [List.mem_singleton.mp e]; omega
  · rw [List.length_append]; exact Nat.succ_le_succ h3
theorem pz {j : Int} (h : decide (0 < j) = true := by rfl) : 0 < j := of_decide_eq_true h
theorem PoolB.ty {K : PySem.W.Frag} {H : Hp} {l : Addr} {b : Nat} (h : PoolB H l b) : tyV K "list" (.ref l) H := let ⟨_, h1, _⟩ := h; .inl ⟨rfl, _, sql h1⟩
theorem upd2 (H : Hp) (l : Addr) (o4 o : HO) : ∃ o', upd (upd H l o4) l o = upd H l o' := by
  refine ⟨o, funext fun b => ?_⟩
  by_cases hb : b = l
  · rw [hb, upd_same, upd_same]
  · rw [upd_ne hb, upd_ne hb, upd_ne hb]
section
variable {P : Program} {w : World} {K : PySem.W.Frag} {mg : Str → Option Value} {base : Heap} {TT : List Addr}
theorem sc_draw : FnScope ["_law_pool_here", "_law_many"] ["_law_pool_here", "_law_many"] (defScope (topS 44)) := ⟨rfl, rfl, rfl, by decide +kernel, rfl, by decide +kernel, by decide +kernel⟩
/-- a draw of the pool at q -/
def sp_draw (TT : List Addr) : Sp := fun vs H Q _ => ∃ q m, vs = [.ref q, .int m] ∧ PoolAt H q ∧ 1 ≤ m ∧ ∀ H' r, Ext TT [q] H H' → PoolAt H' q → 0 ≤ r → r < m → Q (.int r) H'
theorem c_draw (F : ∃ f fd, FunAt K mg "_law_draw" "_law_draw" (topS 44) f fd) (T : Bl K mg) : Cal P w K mg base CX0 "_law_draw" 1 ["_law_pool_here", "_law_many"] (sp_draw TT) := by
  have SC := sc_draw
  refine cal_of F sc_draw (fun _ _ _ _ _ _ us hl => match us, hl with | [_, _], _ => rfl) (fun vs H Q E h => by obtain ⟨q, m, rfl, _⟩ := h; rfl) fun f cdv A' outer s H vs Q E hr h => ?_
  obtain ⟨q, m, rfl, hP, hm, Qq⟩ := h
  have hP0 := hP
  obtain ⟨ns, hq, hn, hl⟩ := hP
  refine ⟨_, (pss_cons (ps_if (pt_cmpR op_eq (pe_callB call_len_seq (by rfl) T.nlen (by decide +kernel) (pa_cons (pv 0) pa_nil)) pe_int (nomark _)) (pss_one (ps_ret pe_int)) pss_nil)
    (pss_one (ps_ret (pe_op op_mod (pe_callTy call_int1 (by rfl) T.nint (by decide +kernel) (pa_cons (pe_bm0 PySem.F.plainAttrs_list PySem.F.slot_list_pop PySem.F.type_list_pop mt_pop (pv 0)) pa_nil)) (pv 1))))), ?_⟩
  refine ⟨_, rfl, q, _, rfl, .inl (sql hq), rfl, _, rfl, ite2 (fun e => ?_) (fun e => ?_)⟩
  · exact Qq H 0 (.refl H) hP0 (by omega) (by omega)
  · have hne : ns ≠ [] := fun z => e (by rw [z]; rfl)
    have hpos : 0 < ns.length := List.length_pos_iff.mpr hne
    obtain ⟨ms, z, rfl⟩ : ∃ ms z, ns = ms ++ [z] := ⟨_, _, (List.dropLast_concat_getLast hne).symm⟩
    have hms : ∀ z ∈ ms, 0 ≤ z ∧ z < 2520 := fun z hz => hn z (List.mem_append_left _ hz)
    have hl2 : ms.length ≤ 1000 := by rw [List.length_append] at hl; omega
    have hq2 := hq
    rw [List.map_append] at hq2
    have x1 : Ext TT [q] H (upd H q (.lst (ms.map V.int))) := .drawn hq hms hl2
    refine ⟨_, rfl, .inl ⟨rfl, _, sql hq2⟩, q, _, .int z, rfl, rfl, hq2, ?_, .inl ⟨z, rfl, _, rfl, _, _, rfl, rfl, by omega, ?_⟩⟩
    · rw [List.getElem?_append_right (by simp)]
      simp
    · have hd : (ms.map V.int ++ [z].map V.int).dropLast = ms.map V.int := List.dropLast_concat
      show Q (.int (z % m)) (upd H q (.lst (ms.map V.int ++ [z].map V.int).dropLast))
      rw [hd]
      exact Qq _ _ x1 ⟨ms, upd_same, hms, hl2⟩ (Int.emod_nonneg _ (by omega)) (Int.emod_lt_of_pos _ (by omega))
theorem sc_pool : FnScope ["_law_script", "_law_many", "_law_pool_here", "_law_total", "_law_cell", "_law_rest", "_law_k", "_law_first", "_law_second"] ["_law_script", "_law_many"] (defScope (topS 43)) := ⟨rfl, rfl, rfl, by decide +kernel, rfl, by decide +kernel, by decide +kernel⟩
def sp_pool (K : PySem.W.Frag) (TT : List Addr) : Sp := fun vs H Q _ => ∃ (a : Addr) (ns : List Int), vs = [.ref a, .int 650] ∧ SqL K H a (ns.map V.int) ∧ (∀ l o, H l = none → SqL K (upd H l o) a (ns.map V.int)) ∧ ns.length ≤ 63 ∧ ∀ H' q, Ext TT [] H H' → H q = none → PoolAt H' q → Q (.ref q) H'
theorem c_pool (F : ∃ f fd, FunAt K mg "_law_pool" "_law_pool" (topS 43) f fd) (T : Bl K mg) : Cal P w K mg base CX0 "_law_pool" 1 ["_law_script", "_law_many"] (sp_pool K TT) := by
  have SC := sc_pool
  refine cal_of F sc_pool (fun _ _ _ _ _ _ us hl => match us, hl with | [_, _], _ => rfl) (fun vs H Q E h => by obtain ⟨a, ns, rfl, _⟩ := h; rfl) fun f cdv A' outer s H vs Q E hr h => ?_
  obtain ⟨a, ns, rfl, hS, hSu, hn, Qq⟩ := h
  refine ⟨_, (pss_cons (ps_set (i := 2) SC.nd rfl (.inl rfl) (pe_lst pa_nil))
    (pss_cons (ps_set (i := 3) SC.nd rfl (.inl rfl) pe_int)
    (pss_cons (ps_for PassesOwn.never rfl (pi_list (pv 0)) (pg_name (i := 4) SC.nd rfl (.inl rfl)) (pss_cons (ps_set (i := 5) SC.nd rfl (.inl rfl) (pe_callTy call_int1 (by rfl) T.nint (by decide +kernel) (pa_cons (pe_callB call_abs (by rfl) T.nabs (by decide +kernel) (pa_cons (pv 4) pa_nil)) pa_nil)))
      (pss_cons (ps_if (pt_cmpR op_ge (pv 5) (pe_op op_pow pe_int pe_int) (nomark _)) (pss_one (ps_for PassesOwn.never rfl (pi_range1 (by rfl) T.nrange (pa_cons (pe_callB (call_min2 rfl) (by rfl) T.nmin (by decide +kernel) (pa_cons pe_int (pa_cons (pe_op op_sub (pv 1) (pe_callB call_len_seq (by rfl) T.nlen (by decide +kernel) (pa_cons (pv 2) pa_nil))) pa_nil))) pa_nil)) (pg_name (i := 6) SC.nd rfl (.inl rfl)) (pss_cons (ps_expr (pe_bm PySem.F.plainAttrs_list PySem.F.slot_list_append PySem.F.type_list_append mt_append (pv 2) (pa_cons (pe_op op_mod (pe_callTy call_int1 (by rfl) T.nint (by decide +kernel) (pa_cons (pv 5) pa_nil)) pe_int) pa_nil)))
          (pss_cons (ps_set (i := 5) SC.nd rfl (.inl rfl) (pe_op op_fdiv (pv 5) pe_int))
          (pss_one (ps_if (pt_cmpR op_eq (pv 5) pe_int (nomark _)) (pss_one ps_break) pss_nil)))))) (pss_cons (ps_set (i := 7) SC.nd rfl (.inl rfl) (pe_op op_mod (pe_callTy call_int1 (by rfl) T.nint (by decide +kernel) (pa_cons (pe_op op_add (pe_op op_add (pe_op op_mul (pv 4) pe_int) (pe_op op_mul (pe_callB call_len_seq (by rfl) T.nlen (by decide +kernel) (pa_cons (pv 2) pa_nil)) pe_int)) pe_int) pa_nil)) pe_int))
        (pss_cons (ps_set (i := 8) SC.nd rfl (.inl rfl) (pe_op op_mod (pe_callTy call_int1 (by rfl) T.nint (by decide +kernel) (pa_cons (pe_op op_add (pe_op op_mul (pv 7) (pv 7)) pe_int) pa_nil)) pe_int))
        (pss_cons (ps_expr (pe_bm PySem.F.plainAttrs_list PySem.F.slot_list_append PySem.F.type_list_append mt_append (pv 2) (pa_cons (pe_op op_mod (pe_callTy call_int1 (by rfl) T.nint (by decide +kernel) (pa_cons (pe_op op_fdiv (pv 8) pe_int) pa_nil)) pe_int) pa_nil)))
        (pss_one (ps_expr (pe_bm PySem.F.plainAttrs_list PySem.F.slot_list_append PySem.F.type_list_append mt_append (pv 2) (pa_cons (pe_op op_mod (pe_op op_mod (pe_callTy call_int1 (by rfl) T.nint (by decide +kernel) (pa_cons (pe_op op_add (pe_op op_mul (pv 8) pe_int) (pv 7)) pa_nil)) pe_int) pe_int) pa_nil))))))))
      (pss_one (ps_set (i := 3) SC.nd rfl (.inl rfl) (pe_op op_mod (pe_callTy call_int1 (by rfl) T.nint (by decide +kernel) (pa_cons (pe_op op_add (pe_op op_mul (pv 3) pe_int) (pv 4)) pa_nil)) pe_int))))))
    (pss_cons (ps_for PassesOwn.never rfl (pi_range1 (by rfl) T.nrange (pa_cons (pv 1) pa_nil)) (pg_name (i := 6) SC.nd rfl (.inl rfl)) (pss_cons (ps_set (i := 3) SC.nd rfl (.inl rfl) (pe_op op_mod (pe_callTy call_int1 (by rfl) T.nint (by decide +kernel) (pa_cons (pe_op op_add (pe_op op_add (pe_op op_mul (pv 3) pe_int) (pe_op op_mul (pv 6) pe_int)) pe_int) pa_nil)) pe_int))
      (pss_one (ps_expr (pe_bm PySem.F.plainAttrs_list PySem.F.slot_list_append PySem.F.type_list_append mt_append (pv 2) (pa_cons (pe_op op_mod (pe_callTy call_int1 (by rfl) T.nint (by decide +kernel) (pa_cons (pe_op op_fdiv (pv 3) pe_int) pa_nil)) pe_int) pa_nil))))))
    (pss_cons (ps_set (i := 2) SC.nd rfl (.inl rfl) (pe_slice sl_list (pv 2) po_none (po_some (pv 1))))
    (pss_cons (ps_expr (pe_bm0 PySem.F.plainAttrs_list PySem.F.slot_list_reverse PySem.F.type_list_reverse mt_reverse (pv 2)))
    (pss_one (ps_ret (pv 2))))))))), ?_⟩
  refine ⟨Nat.zero_le _, fun l hl => ?_⟩
  have x0 : Ext TT [] H (upd H l (.lst [])) := .new hl
  refine ⟨_, rfl, a, rfl, ⟨_, hSu l _ hl⟩, for_list (fun i σ H' => (∃ t y4 y5 y6 y7 y8, σ = [some (.ref a), some (.int 650), some (.ref l), some (.int t), y4, y5, y6, y7, y8] ∧ 0 ≤ t ∧ t < 1000003) ∧ PoolB H' l (62 * i) ∧ ∃ o, H' = upd H l o)
    ⟨⟨1, _, _, _, _, _, rfl, by omega, by omega⟩, ⟨[], upd_same, fun z hz => by simp at hz, by simp⟩, _, rfl⟩ (fun i σ H' _ h => by obtain ⟨_, _, o, rfl⟩ := h; exact hSu l o hl) ?_ ?_⟩
  · rintro i x σ H3 hx ⟨⟨t, y4, y5, y6, y7, y8, rfl, t0, t1⟩, hP, ⟨o3, rfl⟩⟩
    have hi : i < 63 := by
      have := (List.getElem?_eq_some_iff.mp hx).1
      rw [List.length_map] at this
      omega
    obtain ⟨z, rfl⟩ : ∃ z, x = .int z := ⟨_, (getI hx).1⟩
    refine ⟨_, rfl, _, rfl, .inl ⟨_, rfl, ?_⟩⟩
    generalize (if z < 0 then -z else z) = r
    refine ⟨_, rfl, _, _, rfl, rfl, ⟨by decide, by decide, by decide⟩, _, _, rfl, rfl, _, rfl, ite2 (fun e => ?_) (fun e => ?_)⟩
    · obtain ⟨ms, hm, hmb, hml⟩ := id hP
      refine ⟨_, rfl, _, rfl, l, ms.map V.int, rfl, .inl (sql hm), _, _, rfl, rfl, 60, 650 - ((ms.map V.int).length : Nat), rfl, ?_⟩
      have hj : (if 650 - (((ms.map V.int).length : Nat) : Int) < 60 then 650 - (((ms.map V.int).length : Nat) : Int) else 60) ≤ 60 := by split <;> omega
      have hj2 : -4000 ≤ (if 650 - (((ms.map V.int).length : Nat) : Int) < 60 then 650 - (((ms.map V.int).length : Nat) : Int) else 60) := by
        rw [List.length_map]
        split <;> omega
      generalize (if 650 - (((ms.map V.int).length : Nat) : Int) < 60 then 650 - (((ms.map V.int).length : Nat) : Int) else 60) = j at hj hj2 ⊢
      refine ⟨j, rfl, by omega, by omega, for_rangeB (lo := 0) (n := j.toNat) (fun σ H' => (∃ y5 y6, σ = [some (.ref a), some (.int 650), some (.ref l), some (.int t), some (.int z), y5, y6, y7, y8]) ∧ PoolB H' l (62 * i + 62) ∧ ∃ o, H' = upd H l o)
        (fun k σ H' => (∃ r y6, σ = [some (.ref a), some (.int 650), some (.ref l), some (.int t), some (.int z), some (.int r), y6, y7, y8]) ∧ PoolB H' l (62 * i + k) ∧ ∃ o, H' = upd H l o) ?_ ⟨⟨_, _, rfl⟩, hP, _, rfl⟩ ?_ ?_⟩
      · rintro σ H4 ⟨⟨y5, y6, rfl⟩, hP4, o4, rfl⟩
        refine ⟨_, rfl, _, _, rfl, rfl, .inr (by decide), _, rfl, _, _, rfl, rfl, .inl ⟨_, rfl, _, _, rfl, rfl, pz, ?_⟩⟩
        exact ⟨⟨_, _, _, _, _, _, rfl, Int.emod_nonneg _ (by decide), Int.emod_lt_of_pos _ (by decide)⟩, hP4, o4, rfl⟩
      · rintro σ H4 ⟨⟨r, y6, rfl⟩, hP4, o4⟩
        exact ⟨⟨_, _, rfl⟩, hP4.weak (by omega), o4⟩
      · rintro cont k σ H4 hk ⟨⟨r, y6, rfl⟩, hP4, o4, rfl⟩
        refine ⟨_, rfl, hP4.ty, _, rfl, .inl ⟨_, rfl, _, _, rfl, rfl, pz, hP4.push (by omega) fun o hP5 => ?_⟩⟩
        refine ⟨_, rfl, _, _, rfl, rfl, ⟨by decide, by decide⟩, ?_⟩
        refine ⟨_, rfl, rfl, _, rfl, ite2 (fun _ => cont _ _ ⟨⟨_, _, rfl⟩, hP5.weak (by omega), upd2 H l o4 o⟩) (fun _ => ⟨⟨_, _, rfl⟩, hP5, upd2 H l o4 o⟩)⟩
    · obtain ⟨ms, hm, hmb, hml⟩ := id hP
      refine ⟨_, rfl, _, _, rfl, rfl, .inr (by decide), _, rfl, l, ms.map V.int, rfl, .inl (sql hm), _, _, rfl, rfl, .inr (by decide), _, _, rfl, rfl, _, _, rfl, rfl, .inl ⟨_, rfl, _, _, rfl, rfl, pz, ?_⟩⟩
      have hf0 := Int.emod_nonneg (z * 48271 + ((ms.map V.int).length : Nat) * 69621 + 11) (b := 2147483647) (by decide)
      have hf1 := Int.emod_lt_of_pos (z * 48271 + ((ms.map V.int).length : Nat) * 69621 + 11) (b := 2147483647) (by decide)
      show tSeq _ _ _ ((List.set _ 7 (some (V.int ((z * 48271 + ((ms.map V.int).length : Nat) * 69621 + 11) % 2147483647))))) _
      generalize (z * 48271 + ((ms.map V.int).length : Nat) * 69621 + 11) % 2147483647 = f1 at hf0 hf1
      refine ⟨_, rfl, _, rfl, _, _, rfl, rfl, .inl (show -(2 ^ 64) < f1 ∧ f1 < 2 ^ 64 by omega), _, _, rfl, rfl, .inl ⟨_, rfl, _, _, rfl, rfl, pz, ?_⟩⟩
      have hg0 := Int.emod_nonneg (f1 * f1 + 5) (b := 2147483629) (by decide)
      have hg1 := Int.emod_lt_of_pos (f1 * f1 + 5) (b := 2147483629) (by decide)
      show tSeq _ _ _ ((List.set _ 8 (some (V.int ((f1 * f1 + 5) % 2147483629))))) _
      generalize (f1 * f1 + 5) % 2147483629 = f2 at hg0 hg1
      refine ⟨_, rfl, hP.ty, _, rfl, _, _, rfl, rfl, ⟨by decide, by decide⟩, .inl ⟨_, rfl, _, _, rfl, rfl, pz, ?_⟩⟩
      refine hP.push (by omega) fun o hP5 => ?_
      refine ⟨_, rfl, hP5.ty, _, rfl, _, _, rfl, rfl, .inr (by decide), _, rfl, _, _, rfl, rfl, .inl ⟨_, rfl, _, _, rfl, rfl, pz, _, _, rfl, rfl, pz, ?_⟩⟩
      refine hP5.push (by omega) fun o2 hP6 => ?_
      refine ⟨_, rfl, _, _, rfl, rfl, .inr (by decide), _, rfl, _, _, rfl, rfl, .inl ⟨_, rfl, _, _, rfl, rfl, pz, ?_⟩⟩
      obtain ⟨o5, e5⟩ := upd2 H l o3 o
      refine ⟨⟨_, _, _, _, _, _, rfl, Int.emod_nonneg _ (by decide), Int.emod_lt_of_pos _ (by decide)⟩, hP6.weak (by omega), ?_⟩
      rw [e5]
      exact upd2 H l o5 o2
  · rintro σ H3 ⟨⟨t, y4, y5, y6, y7, y8, rfl, t0, t1⟩, hP, ⟨o3, rfl⟩⟩
    rw [List.length_map] at hP
    refine ⟨_, rfl, 650, rfl, by decide, by decide, for_range (lo := 0) (n := 650) (fun i σ H' => (∃ t y6, σ = [some (.ref a), some (.int 650), some (.ref l), some (.int t), y4, y5, y6, y7, y8] ∧ 0 ≤ t ∧ t < 2147483647) ∧ PoolB H' l (62 * ns.length + i) ∧ ∃ o, H' = upd H l o)
      ⟨⟨t, _, rfl, t0, by omega⟩, hP, _, rfl⟩ ?_ ?_⟩
    · rintro i σ H4 hi ⟨⟨t, y6, rfl, t0, t1⟩, hP4, o4, rfl⟩
      refine ⟨_, rfl, _, _, rfl, rfl, .inr (by decide), _, rfl, _, _, rfl, rfl, .inr (by decide), _, _, rfl, rfl, _, _, rfl, rfl, .inl ⟨_, rfl, _, _, rfl, rfl, pz, ?_⟩⟩
      have hg0 := Int.emod_nonneg (t * 48271 + (0 + (i : Int)) * 69621 + 17) (b := 2147483647) (by decide)
      have hg1 := Int.emod_lt_of_pos (t * 48271 + (0 + (i : Int)) * 69621 + 17) (b := 2147483647) (by decide)
      refine ⟨_, rfl, hP4.ty, _, rfl, _, _, rfl, rfl, ⟨by decide, by decide⟩, .inl ⟨_, rfl, _, _, rfl, rfl, pz, ?_⟩⟩
      refine PoolB.push hP4 (by omega) fun o hP5 => ?_
      exact ⟨⟨_, _, rfl, hg0, hg1⟩, hP5, upd2 H l o4 o⟩
    · rintro σ H4 ⟨⟨t, y6, rfl, t0, t1⟩, ⟨ms, hm, hmb, hml⟩, o4, rfl⟩
      refine ⟨_, rfl, _, rfl, 650, rfl, l, ms.map V.int, rfl, sql hm, fun q hq => ?_⟩
      have hlq : (l : Nat) ≠ q := fun z => by rw [show q = l from z.symm, upd_same] at hq; cases hq
      have hqH : H q = none := by rw [upd_ne (fun z => hlq z.symm)] at hq; exact hq
      have hcut : ∃ ks : List Int, cutV (ms.map V.int) none (some 650) = ks.map V.int ∧ (∀ z ∈ ks, 0 ≤ z ∧ z < 2520) ∧ ks.length ≤ 650 := by
        have e : cutV (ms.map V.int) none (some 650) = (ms.take 650).map V.int := by
          unfold cutV
          rw [HT.sIx_none, Nat.sub_zero, List.drop_zero, show (650 : Int) = ((650 : Nat) : Int) from rfl, HT.sIx_nat, List.length_map, List.map_take, List.take_eq_take_iff, List.length_map]
          omega
        refine ⟨ms.take 650, e, fun z hz => hmb z (List.mem_of_mem_take hz), by rw [List.length_take]; omega⟩
      obtain ⟨ks, e1, e2, e3⟩ := hcut
      rw [e1]
      refine ⟨_, rfl, .inl ⟨rfl, _, sql upd_same⟩, q, _, rfl, rfl, upd_same, _, rfl, ?_⟩
      have x9 : Ext TT [] H (upd (upd (upd H l o4) q (.lst (ks.map V.int))) q (.lst (ks.map V.int).reverse)) := Ext.mut (Ext.mut (Ext.new hl) hqH) hqH
      refine Qq _ q x9 hqH ⟨ks.reverse, ?_, fun z hz => e2 z (List.mem_reverse.mp hz), by rw [List.length_reverse]; omega⟩
      rw [List.map_reverse]
      exact upd_same
end
end K17
end

section
set_option linter.all false
set_option maxRecDepth 100000
set_option maxHeartbeats 2000000
namespace K17
open PySem PySem.Spec PyProof.Rows L2 G17 M17
open GxR (TabG Tabbed)
/-- a row as a list, not at D -/
def RL (D : Addr) (H : Hp) (v : V) (r : M17.Row) : Prop := ∃ b, v = .ref b ∧ b ≠ D ∧ H b = some (.lst (r.map V.int))
theorem stayL {T : List Addr} {D : Addr} : Stay T [] D (RL D) := ⟨fun x ⟨b, e, ne, h⟩ => ⟨b, e, ne, x.lst h⟩, fun _ _ ⟨b, e, ne, h⟩ => ⟨b, e, ne, by rw [upd_ne ne]; exact h⟩⟩
/-- .. anywhere -/
def RL0 (H : Hp) (v : V) (r : M17.Row) : Prop := ∃ b, v = .ref b ∧ H b = some (.lst (r.map V.int))
theorem RL.mono {T : List Addr} {D : Addr} {H H' : Hp} {v : V} {r : M17.Row} (x : Ext T [] H H') (h : RL D H v r) : RL D H' v r := stayL.e x h
theorem RL.at_ {D D' : Addr} {H : Hp} {v : V} {r : M17.Row} (h : RL D H v r) (n : H D' = none) : RL D' H v r := by
  obtain ⟨b, e, ne, h⟩ := h
  exact ⟨b, e, (fun z => by rw [z, n] at h; cases h), h⟩
theorem LP.pushL {T : List Addr} {D : Addr} {H1 H H4 : Hp} {l : Nat → List M17.Row} {i : Nat} {y : V} {b : M17.Row} (hD : H1 D = none) (p : LP T [] D H1 (RL D) l i H) (x : Ext T [] H H4) (hy : RL D H4 y b) (hl : l (i + 1) = l i ++ [b]) (hz : (l i).length < sizeLine) :
    ∃ acc, H4 D = some (.lst acc) ∧ acc.length < sizeLine ∧ LP T [] D H1 (RL D) l (i + 1) (upd H4 D (.lst (acc ++ [y]))) := by
  have up : ∀ {o : HO}, RL D (upd H4 D o) y b := fun {o} => let ⟨b, e, ne, h⟩ := hy; ⟨b, e, ne, by rw [upd_ne ne]; exact h⟩
  exact p.push hD (by simp) stayL x hl up (fun xs _ => up) hz
/-- the inverses found: one -/
theorem invs {p a : Int} (hp : isP p) (h1 : 1 ≤ a) (h2 : a < p) : ((List.range (p - 1).toNat).filter fun (k : Nat) => ((1 + (k : Int)) * a) % p == 1).map (fun (k : Nat) => 1 + (k : Int)) = [inv p a] := by
  rcases hp with rfl | rfl | rfl
  · have : a = 1 := by omega
    subst this; decide
  · have : a = 1 ∨ a = 2 := by omega
    rcases this with rfl | rfl <;> decide
  · have : a = 1 ∨ a = 2 ∨ a = 3 ∨ a = 4 := by omega
    rcases this with rfl | rfl | rfl | rfl <;> decide
theorem filter_succ {f : Nat → Bool} {g : Nat → Int} {i : Nat} : ((List.range (i + 1)).filter f).map g = ((List.range i).filter f).map g ++ (if f i then [g i] else []) := by
  rw [List.range_succ, List.filter_append, List.filter_cons, List.filter_nil, List.map_append]
  congr 1
  split <;> rfl
section
variable {P : Program} {w : World} {K : PySem.W.Frag} {mg : Str → Option Value} {base : Heap} {TT : List Addr}
theorem sc_lred : FnScope ["_law_p", "_law_rows", "_law_columns", "_law_done", "_law_work", "_law_c", "_law_found", "_law_back", "_law_row", "_law_k", "_law_a", "_law_x", "_law_other", "_law_j"] ["_law_p", "_law_rows", "_law_columns"] (defScope (topS 49)) := ⟨rfl, rfl, rfl, by decide +kernel, rfl, by decide +kernel, by decide +kernel⟩
def sp_lred (TT : List Addr) : Sp := fun vs H Q _ => ∃ v p n R, vs = [.int p, v, .int ((n : Nat) : Int)] ∧ isP p ∧ n ≤ 5 ∧ R.length ≤ 1000 ∧ OkM p n R ∧ Mx H v R ∧ ∀ H' y, Ext TT [] H H' → Mx H' y (red p n R) → Q y H'
def LRedI (TT : List Addr) (H : Hp) (p n : Int) (v : V) (R : List M17.Row) (i : Nat) (σ : L2.St) (H' : Hp) : Prop :=
  ∃ dn wk y5 y6 y7 y8 vs1 vs2, σ = [some (.int p), some v, some (.int n), some (.ref dn), some (.ref wk), y5, y6, y7, y8, none, none, none, none, none] ∧ H' wk = some (.lst vs1) ∧ H' dn = some (.lst vs2) ∧ (wk : Nat) ≠ dn ∧
    Paired (RL wk H') vs1 (stAt p R i).1 ∧ Paired (RL0 H') vs2 (stAt p R i).2 ∧ Ext TT [] H H' ∧ H wk = none
theorem c_lred (F : ∃ f fd, FunAt K mg "_law_reduced" "_law_reduced" (topS 49) f fd) (T : Bl K mg) : Cal P w K mg base CX0 "_law_reduced" 1 ["_law_p", "_law_rows", "_law_columns"] (sp_lred TT) := by
  have SC := sc_lred
  refine cal_of F sc_lred (fun _ _ _ _ _ _ us hl => match us, hl with | [_, _, _], _ => rfl) (fun vs H Q E h => by obtain ⟨v, p, n, R, rfl, _⟩ := h; rfl) fun f cdv A' outer s H vs Q E hr h => ?_
  obtain ⟨v, p, n, R, rfl, hp, hn, hz, ok, ⟨a, vs, rfl, ha, pr⟩, q⟩ := h
  refine ⟨_, (pss_cons (ps_set (i := 3) SC.nd rfl (.inl rfl) (pe_lst pa_nil))
    (pss_cons (ps_set (i := 4) SC.nd rfl (.inr rfl) (pe_lc (own := [("_law_row", 8)]) (by rfl) SC.nd (pi_tup (pv 1)) (blkOk_by (by kernel_rfl)) (by intro _ _ _ _ _; exact (pg_name (i := 8) SC.nd rfl (.inl rfl))) (by intro _ _ _ _ _; exact pts_nil) (by intro _ _ _ _ _; exact (pe_callTy (call_list_ofK (K := K) rfl) (by rfl) T.nlist (by decide +kernel) (pa_cons (pv 8) pa_nil)))))
    (pss_cons (ps_for PassesOwn.never rfl (pi_range1 (by rfl) T.nrange (pa_cons (pv 2) pa_nil)) (pg_name (i := 5) SC.nd rfl (.inr rfl)) (pss_cons (ps_setLc (i := 6) (own := [("_law_k", 9)]) (by rfl) SC.nd rfl rfl (sw_true rfl rfl rfl (by kernel_rfl)) (pi_range1 (by rfl) T.nrange (pa_cons (pe_callB call_len_seq (by rfl) T.nlen (by decide +kernel) (pa_cons (pv 4) pa_nil)) pa_nil)) (blkOk_by (by kernel_rfl)) (by intro _ _ _ _ _; exact (pg_name (i := 9) SC.nd rfl (.inl rfl))) (by intro _ _ _ _ _; exact (pts_one (pt_cmpR op_ne (pe_ix (ix_listK (K := K) rfl) (pe_ix (ix_listK (K := K) rfl) (pv 4) (pv 9) (fun _ _ => rfl)) (pv 5) (fun _ _ => rfl)) pe_int (nomark _)))) (by intro _ _ _ _ _; exact (pv 9)))
      (pss_one (ps_if (pt_cmpR op_gt (pe_callB call_len_seq (by rfl) T.nlen (by decide +kernel) (pa_cons (pv 6) pa_nil)) pe_int (nomark _)) (pss_cons (ps_set (i := 8) SC.nd rfl (.inr rfl) (pe_bm PySem.F.plainAttrs_list PySem.F.slot_list_pop PySem.F.type_list_pop mt_popAt (pv 4) (pa_cons (pe_ix ix_list (pv 6) pe_int (fun _ _ => rfl)) pa_nil)))
        (pss_cons (ps_set (i := 7) SC.nd rfl (.inr rfl) (pe_ix ix_list (pe_lc (own := [("_law_a", 10)]) (by rfl) SC.nd (pi_range2 (by rfl) T.nrange (pa_cons pe_int (pa_cons (pv 0) pa_nil))) (blkOk_by (by kernel_rfl)) (by intro _ _ _ _ _; exact (pg_name (i := 10) SC.nd rfl (.inl rfl))) (by intro _ _ _ _ _; exact (pts_one (pt_cmpR op_eq (pe_op op_mod (pe_callTy call_int1 (by rfl) T.nint (by decide +kernel) (pa_cons (pe_op op_mul (pv 10) (pe_ix (ix_listK (K := K) rfl) (pv 8) (pv 5) (fun _ _ => rfl))) pa_nil)) (pv 0)) pe_int (nomark _)))) (by intro _ _ _ _ _; exact (pv 10))) pe_int (fun _ _ => rfl)))
        (pss_cons (ps_set (i := 8) SC.nd rfl (.inr rfl) (pe_lc (own := [("_law_x", 11)]) (by rfl) SC.nd (pi_list (pv 8)) (blkOk_by (by kernel_rfl)) (by intro _ _ _ _ _; exact (pg_name (i := 11) SC.nd rfl (.inl rfl))) (by intro _ _ _ _ _; exact pts_nil) (by intro _ _ _ _ _; exact (pe_op op_mod (pe_callTy call_int1 (by rfl) T.nint (by decide +kernel) (pa_cons (pe_op op_mul (pv 7) (pv 11)) pa_nil)) (pv 0)))))
        (pss_cons (ps_set (i := 4) SC.nd rfl (.inr rfl) (pe_lc (own := [("_law_other", 12)]) (by rfl) SC.nd (pi_list (pv 4)) (blkOk_by (by kernel_rfl)) (by intro _ _ _ _ _; exact (pg_name (i := 12) SC.nd rfl (.inr rfl))) (by intro _ _ _ _ _; exact pts_nil) (by intro _ _ _ _ _; exact (pe_lc (own := [("_law_j", 13)]) (by rfl) SC.nd (pi_range1 (by rfl) T.nrange (pa_cons (pv 2) pa_nil)) (blkOk_by (by kernel_rfl)) (by intro _ _ _ _ _; exact (pg_name (i := 13) SC.nd rfl (.inl rfl))) (by intro _ _ _ _ _; exact pts_nil) (by intro _ _ _ _ _; exact (pe_op op_mod (pe_callTy call_int1 (by rfl) T.nint (by decide +kernel) (pa_cons (pe_op op_sub (pe_ix (ix_listK (K := K) rfl) (pv 12) (pv 13) (fun _ _ => rfl)) (pe_op op_mul (pe_ix (ix_listK (K := K) rfl) (pv 12) (pv 5) (fun _ _ => rfl)) (pe_ix (ix_listK (K := K) rfl) (pv 8) (pv 13) (fun _ _ => rfl)))) pa_nil)) (pv 0)))))))
        (pss_one (ps_set (i := 3) SC.nd rfl (.inl rfl) (pe_op op_cat (pe_lc (own := [("_law_other", 12)]) (by rfl) SC.nd (pi_list (pv 3)) (blkOk_by (by kernel_rfl)) (by intro _ _ _ _ _; exact (pg_name (i := 12) SC.nd rfl (.inr rfl))) (by intro _ _ _ _ _; exact pts_nil) (by intro _ _ _ _ _; exact (pe_lc (own := [("_law_j", 13)]) (by rfl) SC.nd (pi_range1 (by rfl) T.nrange (pa_cons (pv 2) pa_nil)) (blkOk_by (by kernel_rfl)) (by intro _ _ _ _ _; exact (pg_name (i := 13) SC.nd rfl (.inl rfl))) (by intro _ _ _ _ _; exact pts_nil) (by intro _ _ _ _ _; exact (pe_op op_mod (pe_callTy call_int1 (by rfl) T.nint (by decide +kernel) (pa_cons (pe_op op_sub (pe_ix (ix_listK (K := K) rfl) (pv 12) (pv 13) (fun _ _ => rfl)) (pe_op op_mul (pe_ix (ix_listK (K := K) rfl) (pv 12) (pv 5) (fun _ _ => rfl)) (pe_ix (ix_listK (K := K) rfl) (pv 8) (pv 13) (fun _ _ => rfl)))) pa_nil)) (pv 0)))))) (pe_lst (pa_cons (pv 8) pa_nil))))))))) pss_nil))))
    (pss_one (ps_ret (pe_callTy call_tuple_of (by rfl) T.ntuple (by decide +kernel) (pa_cons (pe_lc (own := [("_law_row", 8)]) (by rfl) SC.nd (pi_list (pv 3)) (blkOk_by (by kernel_rfl)) (by intro _ _ _ _ _; exact (pg_name (i := 8) SC.nd rfl (.inl rfl))) (by intro _ _ _ _ _; exact pts_nil) (by intro _ _ _ _ _; exact (pe_callTy (call_tuple_ofK (K := K) rfl) (by rfl) T.ntuple (by decide +kernel) (pa_cons (pv 8) pa_nil)))) pa_nil))))))), ?_⟩
  have p5 := hp.five
  have p2 := hp.two
  refine ⟨Nat.zero_le _, fun dn hdn => ?_⟩
  have x1 : Ext TT [] H (upd H dn (.lst [])) := .new hdn
  have ha1 := x1.tup _ _ ha
  refine ⟨_, rfl, a, rfl, ⟨_, sqt ha1⟩, fun wk hwk => lc_tup (LP TT [] wk _ (RL wk) fun i => R.take i) (.start rfl hwk) (fun i H3 _ lp => sqt (lp.ext.tup _ _ ha1)) ?_ ?_⟩
  · intro i x H3 hx lp
    obtain ⟨r, hr3, ⟨b, rfl, hb⟩⟩ := paired_get pr hx
    refine ⟨rfl, yes ⟨_, rfl, b, _, rfl, .inr (sqt ((x1.trans lp.ext).tup _ _ hb)), fun l hl => ?_⟩⟩
    refine lp.pushL hwk (.new hl) ⟨l, rfl, fun z => ?_, upd_same⟩ (take_succ_of hr3) (lz1000 (by rw [List.length_take]; omega))
    obtain ⟨ws, h1, _⟩ := lp
    rw [z, h1] at hl
    cases hl
  · intro H3 lp
    obtain ⟨vs1, hv1, pr1, x3⟩ := lp
    have t0 : R.take vs.length = R := List.take_of_length_le (by rw [pr.length]; exact Nat.le_refl _)
    simp only [t0] at pr1
    have nwd : (wk : Nat) ≠ dn := fun z => by rw [show wk = dn from z, upd_same] at hwk; cases hwk
    refine ⟨_, rfl, n, rfl, by omega, by omega, for_range (lo := 0) (n := n) (LRedI TT H p n (.ref a) R) ⟨dn, wk, none, none, none, none, vs1, [], rfl, hv1, x3.lst upd_same, nwd, pr1, .nil, x1.trans x3, x1.dom _ hwk⟩ ?_ ?_⟩
    · rintro i σ H4 hi ⟨dn, wk, y5, y6, y7, y8, vs1, vs2, rfl, hw4, hd4, nwd, pr1, pr2, x4, nw⟩
      obtain ⟨ok1, ok2⟩ := stAt_ok hp ok (c := i) (by omega)
      have hlen := stAt_len p R i
      have hsucc := stAt_succ p R i
      generalize hS : stAt p R i = S at *
      have l1 := pr1.length
      have l2 := pr2.length
      rw [Int.zero_add]
      refine ⟨_, rfl, wk, _, rfl, .inl (sql hw4), ((vs1.length : Nat) : Int), rfl, by omega, by omega, fun D hD => lc_range (lo := 0) (n := vs1.length) (LP TT [] D H4 RI fun k => (heads i S.1 k).map Int.ofNat) (.start rfl hD) ?_ ?_⟩
      · rintro k H5 hk lp
        rw [Int.zero_add]
        obtain ⟨r, hr5⟩ : ∃ r, S.1[k]? = some r := ⟨_, List.getElem?_eq_getElem (by omega)⟩
        obtain ⟨y, hy, hR⟩ := paired_get' pr1 hr5
        obtain ⟨b, rfl, hbw, hb⟩ := hR.mono lp.ext
        have orr := ok1 r (List.mem_of_getElem? hr5)
        refine ⟨rfl, _, rfl, _, rfl, wk, _, _, _, rfl, rfl, sql (lp.ext.lst hw4), atI_nat hy, _, rfl, b, _, _, _, rfl, rfl, sql hb, atI_nat (K17.atI (by rw [orr.1]; exact hi)), rfl, _, rfl, ite2 (fun e => ?_) (fun e => ?_)⟩
        · have e2 : g r i ≠ 0 := fun z => by rw [z] at e; exact absurd e (by decide)
          refine ⟨_, rfl, lp.pushI (b := (k : Nat)) hD (by simp) (.refl _) ?_ ?_⟩
          · show (heads i S.1 (k + 1)).map Int.ofNat = _
            rw [heads_succ, getD_row hr5, if_pos (by simpa using e2), List.map_append]
            rfl
          · show ((heads i S.1 k).map Int.ofNat).length < sizeLine
            rw [List.length_map]
            have := heads_len i S.1 k
            exact lz1000 (by omega)
        · have e2 : g r i = 0 := Classical.byContradiction fun z => e (by rw [Bool.not_eq_true', decide_eq_false_iff_not]; exact fun y => z (V.int.inj y))
          refine lp.skip stayI (by simp) (.refl _) ?_
          show (heads i S.1 (k + 1)).map Int.ofNat = (heads i S.1 k).map Int.ofNat
          rw [heads_succ, getD_row hr5, if_neg (by simp [e2]), List.append_nil]
      · intro H5 lp
        have hI := lp.ints
        have x5 := lp.ext
        rw [l1] at hI
        refine ⟨_, rfl, D, _, rfl, .inl (sql hI), _, _, rfl, rfl, ?_⟩
        cases hh : heads i S.1 S.1.length with
        | nil =>
          refine ⟨false, rfl, iteF ?_⟩
          refine ⟨dn, wk, some (.int i), some (.ref D), y7, y8, vs1, vs2, rfl, x5.lst hw4, x5.lst hd4, nwd, ?_, ?_, x4.trans x5, nw⟩
          · rw [hsucc, step_none hh]
            exact L2.Paired.mapP pr1 fun _ _ r => r.mono x5
          · rw [hsucc, step_none hh]
            exact L2.Paired.mapP pr2 fun _ _ ⟨c, e, h⟩ => ⟨c, e, x5.lst h⟩
        | cons k t =>
          have hpos : decide ((0 : Int) < (((((k :: t).map Int.ofNat).map V.int).length : Nat) : Int)) = true := decide_eq_true (by rw [List.length_map, List.length_map, List.length_cons]; omega)
          refine ⟨true, congrArg V.bl hpos, iteT ?_⟩
          obtain ⟨hk, hne, hstep⟩ := step_some (p := p) hh
          rw [hh] at hI
          obtain ⟨r, hr5⟩ : ∃ r, S.1[k]? = some r := ⟨_, List.getElem?_eq_getElem hk⟩
          obtain ⟨y, hy, ⟨b, rfl, hbw, hb⟩⟩ := paired_get' pr1 hr5
          have orr := ok1 r (List.mem_of_getElem? hr5)
          rw [getD_row hr5] at hne hstep
          have hw5 := x5.lst hw4
          have hb5 := x5.lst hb
          refine ⟨_, rfl, .inl ⟨rfl, _, sql hw5⟩, _, rfl, D, _, _, _, rfl, rfl, sql hI, atI_nat (j := 0) rfl, wk, vs1, (k : Int), k, .ref b, rfl, rfl, hw5, by omega, by omega, seqNat (by omega), hy, ?_⟩
          have x6 : Ext TT [] H (upd H5 wk (.lst (vs1.eraseIdx k))) := (x4.trans x5).mut nw
          have u6 : ∀ c xs, c ≠ wk → H5 c = some (.lst xs) → upd H5 wk (.lst (vs1.eraseIdx k)) c = some (.lst xs) := fun c xs hc h => by rw [upd_ne hc]; exact h
          have gr := g_ok (by omega) orr i
          have hb6 := u6 _ _ hbw hb5
          have pr16 : Paired (RL wk (upd H5 wk (.lst (vs1.eraseIdx k)))) (vs1.eraseIdx k) (S.1.eraseIdx k) := paired_erase (L2.Paired.mapP pr1 fun _ _ ⟨c, e, ne, h⟩ => ⟨c, e, ne, u6 _ _ ne (x5.lst h)⟩) k
          have pr26 : Paired (RL wk (upd H5 wk (.lst (vs1.eraseIdx k)))) vs2 S.2 := L2.Paired.mapP pr2 fun _ r2 ⟨c, e, h⟩ => by
            have ne : c ≠ wk := fun z => by
              have h5 := x5.lst h
              rw [z, hw5] at h5
              have ev : vs1 = r2.map V.int := by injection h5 with h6; injection h6
              rw [ev] at hy
              cases (getI hy).1
            exact ⟨c, e, ne, u6 _ _ ne (x5.lst h)⟩
          have hw6 : upd H5 wk (.lst (vs1.eraseIdx k)) wk = some (.lst (vs1.eraseIdx k)) := upd_same
          have hd6 := u6 _ _ (fun z => nwd z.symm) (x5.lst hd4)
          generalize upd H5 wk (.lst (vs1.eraseIdx k)) = H6 at *
          refine ⟨_, rfl, 1, p, rfl, ⟨by omega, by omega, by omega, by omega⟩, fun D2 hD2 => lc_range (lo := 1) (n := (p - 1).toNat) (LP TT [] D2 H6 RI fun k => ((List.range k).filter fun (k : Nat) => ((1 + (k : Int)) * g r i) % p == 1).map fun (k : Nat) => 1 + (k : Int)) (.start rfl hD2) ?_ ?_⟩
          · intro k2 H7 hk2 lp7
            have x7 := lp7.ext
            refine ⟨rfl, _, rfl, _, rfl, _, rfl, b, _, _, _, rfl, rfl, sql (x7.lst hb6), atI_nat (K17.atI (by rw [orr.1]; exact hi)), _, _, rfl, rfl, .inl (show -(2 ^ 64) < 1 + (k2 : Int) ∧ 1 + (k2 : Int) < 2 ^ 64 by omega), .inl ⟨_, rfl, _, rfl, _, _, rfl, rfl, (show (0 : Int) < p by omega), rfl, _, rfl, ite2 (fun e => ?_) (fun e => ?_)⟩⟩
            · have e2 : (1 + (k2 : Int)) * g r i % p = 1 := V.int.inj (of_decide_eq_true e)
              refine ⟨_, rfl, lp7.pushI (b := 1 + (k2 : Int)) hD2 (by simp) (.refl _) ?_ ?_⟩
              · show ((List.range (k2 + 1)).filter _).map _ = _
                rw [filter_succ, if_pos (by simpa using e2)]
              · rw [List.length_map]
                exact lz1000 (Nat.le_trans (List.length_filter_le _ _) (by rw [List.length_range]; omega))
            · refine lp7.skip stayI (by simp) (.refl _) ?_
              show ((List.range (k2 + 1)).filter _).map _ = _
              rw [filter_succ, if_neg (by simpa using fun z => e (decide_eq_true (congrArg V.int z))), List.append_nil]
          · intro H7 lp7
            have x7 := lp7.ext
            have hI7 := lp7.ints
            rw [invs hp (by omega) gr.2] at hI7
            refine ⟨D2, _, _, _, rfl, rfl, sql hI7, atI_nat (j := 0) rfl, ?_⟩
            refine ⟨_, rfl, b, rfl, ⟨_, sql (x7.lst hb6)⟩, fun D3 hD3 => lc_list (LP TT [] D3 H7 RI fun j => (scale p (inv p (g r i)) r).take j) (.start rfl hD3) (fun j H8 _ lp8 => sql (lp8.ext.lst (x7.lst hb6))) ?_ ?_⟩
            · intro j x H8 hx lp8
              obtain ⟨rfl, hj⟩ := getI hx
              have gj := g_ok (by omega) orr j
              refine ⟨rfl, yes ⟨_, rfl, _, rfl, _, _, rfl, rfl, .inr (show -(2 ^ 64) < g r j ∧ g r j < 2 ^ 64 by omega), .inl ⟨_, rfl, _, rfl, _, _, rfl, rfl, (show (0 : Int) < p by omega), ?_⟩⟩⟩
              exact lp8.pushI hD3 (by simp) (.refl _) (by rw [Int.mul_comm (inv p (g r i))]; exact scale_take hj) (lz1000 (by have := orr.1; rw [List.length_take]; omega))
            · intro H8 lp8
              have hI8 := lp8.ints
              rw [List.take_of_length_le (by unfold scale; rw [List.length_map, List.length_map]; exact Nat.le_refl _)] at hI8
              have ohd : OkR p n (scale p (inv p (g r i)) r) := ok_scale (by omega) orr
              have x68 := x7.trans lp8.ext
              have x8 := x6.trans x68
              have hw8 := x68.lst hw6
              have hd8 := x68.lst hd6
              have pr18 : Paired (RL wk H8) (vs1.eraseIdx k) (S.1.eraseIdx k) := L2.Paired.mapP pr16 fun _ _ q => q.mono x68
              have pr28 : Paired (RL wk H8) vs2 S.2 := L2.Paired.mapP pr26 fun _ _ q => q.mono x68
              generalize hhd : scale p (inv p (g r i)) r = hd at *
              have rowOk : ∀ r' ∈ S.1.eraseIdx k, OkR p n r' := fun r' h' => ok1 r' (List.mem_of_mem_eraseIdx h')
              refine ⟨_, rfl, wk, rfl, ⟨_, sql hw8⟩, fun D4 hD4 => lc_list (LP TT [] D4 H8 (RL D4) fun j => (elim p i hd (S.1.eraseIdx k)).take j) (.start rfl hD4) (fun j H9 _ lp9 => sql (lp9.ext.lst hw8)) ?_ ?_⟩
              · intro j x H9 hx lp9
                obtain ⟨r', hr9, ⟨c, rfl, hcw, hc⟩⟩ := paired_get pr18 hx
                have or9 := rowOk r' (List.mem_of_getElem? hr9)
                have x9 := lp9.ext
                refine ⟨rfl, yes ⟨_, rfl, ((n : Nat) : Int), rfl, by omega, by omega, fun D5 hD5 => lc_range (lo := 0) (n := n) (LP TT [] D5 H9 RI fun t => (less p r' (g r' i) hd).take t) (.start rfl hD5) ?_ ?_⟩⟩
                · intro t H10 ht lp10
                  rw [Int.zero_add]
                  have x10 := x9.trans lp10.ext
                  have g1 := g_ok (by omega) or9 i
                  refine ⟨rfl, yes ⟨_, rfl, _, rfl, c, _, _, _, rfl, rfl, sql (x10.lst hc), atI_nat (K17.atI (by rw [or9.1]; exact ht)), _, rfl, _, rfl, c, _, _, _, rfl, rfl, sql (x10.lst hc), atI_nat (K17.atI (by rw [or9.1]; exact hi)), _, rfl, _, rfl, D3, _, _, _, rfl, rfl, sql (x10.lst hI8), atI_nat (K17.atI (by rw [ohd.1]; exact ht)),
                    _, _, rfl, rfl, .inl (show -(2 ^ 64) < g r' i ∧ g r' i < 2 ^ 64 by omega), _, _, rfl, rfl, .inl ⟨_, rfl, _, rfl, _, _, rfl, rfl, (show (0 : Int) < p by omega), ?_⟩⟩⟩
                  exact lp10.pushI hD5 (by simp) (.refl _) (less_take or9.1 ohd.1 ht) (lz1000 (by rw [List.length_take]; omega))
                · intro H10 lp10
                  have hI10 := lp10.ints
                  rw [List.take_of_length_le (by rw [(ok_less (by omega) or9 ohd).1]; exact Nat.le_refl _)] at hI10
                  refine lp9.pushL hD4 lp10.ext ⟨D5, rfl, fun z => ?_, hI10⟩ (elim_take hr9) (lz1000 ?_)
                  · obtain ⟨ws, h1, _⟩ := lp9
                    rw [z, h1] at hD5
                    cases hD5
                  · have := (List.getElem?_eq_some_iff.mp hx).1
                    rw [List.length_eraseIdx] at this
                    rw [List.length_take]
                    split at this <;> omega
              · intro H9 lp9
                obtain ⟨ws1, hw9, pw1, x9⟩ := lp9
                have hd9 := x9.lst hd8
                have nD4 := x8.dom _ hD4
                refine ⟨_, rfl, dn, rfl, ⟨_, sql hd9⟩, fun D6 hD6 => lc_list (LP TT [] D6 H9 (RL D6) fun j => (elim p i hd S.2).take j) (.start rfl hD6) (fun j H10 _ lp10 => sql (lp10.ext.lst hd9)) ?_ ?_⟩
                · intro j x H10 hx lp10
                  obtain ⟨r', hr10, ⟨c, rfl, hcw, hc⟩⟩ := paired_get pr28 hx
                  have or10 := ok2 r' (List.mem_of_getElem? hr10)
                  have x10 := x9.trans lp10.ext
                  refine ⟨rfl, yes ⟨_, rfl, ((n : Nat) : Int), rfl, by omega, by omega, fun D5 hD5 => lc_range (lo := 0) (n := n) (LP TT [] D5 H10 RI fun t => (less p r' (g r' i) hd).take t) (.start rfl hD5) ?_ ?_⟩⟩
                  · intro t H11 ht lp11
                    rw [Int.zero_add]
                    have x11 := x10.trans lp11.ext
                    have g1 := g_ok (by omega) or10 i
                    refine ⟨rfl, yes ⟨_, rfl, _, rfl, c, _, _, _, rfl, rfl, sql (x11.lst hc), atI_nat (K17.atI (by rw [or10.1]; exact ht)), _, rfl, _, rfl, c, _, _, _, rfl, rfl, sql (x11.lst hc), atI_nat (K17.atI (by rw [or10.1]; exact hi)), _, rfl, _, rfl, D3, _, _, _, rfl, rfl, sql (x11.lst hI8), atI_nat (K17.atI (by rw [ohd.1]; exact ht)),
                      _, _, rfl, rfl, .inl (show -(2 ^ 64) < g r' i ∧ g r' i < 2 ^ 64 by omega), _, _, rfl, rfl, .inl ⟨_, rfl, _, rfl, _, _, rfl, rfl, (show (0 : Int) < p by omega), ?_⟩⟩⟩
                    exact lp11.pushI hD5 (by simp) (.refl _) (less_take or10.1 ohd.1 ht) (lz1000 (by rw [List.length_take]; omega))
                  · intro H11 lp11
                    have hI11 := lp11.ints
                    rw [List.take_of_length_le (by rw [(ok_less (by omega) or10 ohd).1]; exact Nat.le_refl _)] at hI11
                    refine lp10.pushL hD6 lp11.ext ⟨D5, rfl, fun z => ?_, hI11⟩ (elim_take hr10) (lz1000 ?_)
                    · obtain ⟨ws, h1, _⟩ := lp10
                      rw [z, h1] at hD5
                      cases hD5
                    · have := (List.getElem?_eq_some_iff.mp hx).1
                      rw [List.length_take]
                      omega
                · intro H10 lp10
                  obtain ⟨ws2, hw10, pw2, x10⟩ := lp10
                  have t1 : (elim p i hd (S.1.eraseIdx k)).take (vs1.eraseIdx k).length = elim p i hd (S.1.eraseIdx k) := List.take_of_length_le (by unfold elim; rw [List.length_map, pr18.length]; exact Nat.le_refl _)
                  have t2 : (elim p i hd S.2).take vs2.length = elim p i hd S.2 := List.take_of_length_le (by unfold elim; rw [List.length_map]; omega)
                  simp only [t1] at pw1
                  simp only [t2] at pw2
                  have lw2 := pw2.length
                  have lw2' : ws2.length ≤ 1000 := by unfold elim at lw2; rw [List.length_map] at lw2; omega
                  refine ⟨_, rfl, by show 1 ≤ sizeLine; decide, fun D7 hD7 => ⟨D6, D7, _, _, rfl, rfl, (Ext.new (T := TT) (M := []) hD7).lst hw10, upd_same, sz1000 (by show ws2.length + 1 ≤ 100000; omega), fun D8 hD8 => ?_⟩⟩
                  have y7 : Ext TT [] H10 (upd (upd H10 D7 (.lst [.ref D3])) D8 (.lst (ws2 ++ [.ref D3]))) := (Ext.new hD7).trans (.new hD8)
                  have nD : (D4 : Nat) ≠ D8 := fun z => by
                    have z1 := ((Ext.new (T := TT) (M := []) (o := .lst [V.ref D3]) hD7).dom _ hD8)
                    rw [← show D4 = D8 from z] at z1
                    have := x10.lst hw9
                    rw [z1] at this
                    cases this
                  have n8 : H8 D4 = none := hD4
                  refine ⟨D8, D4, some (.int i), some (.ref D), some (.int (inv p (g r i))), some (.ref D3), ws1, _, rfl, y7.lst (x10.lst hw9), upd_same, nD, ?_, ?_, ((x8.trans x9).trans x10).trans y7, nD4⟩
                  · rw [hsucc, hstep]
                    exact L2.Paired.mapP pw1 fun _ _ q => q.mono (x10.trans y7)
                  · rw [hsucc, hstep]
                    exact paired_append (L2.Paired.mapP pw2 fun _ _ ⟨c, e, ne, hc⟩ => ⟨c, e, y7.lst hc⟩) (.cons ⟨D3, rfl, ((x9.trans x10).trans y7).lst hI8⟩ .nil)
    · rintro σ H4 ⟨dn, wk, y5, y6, y7, y8, vs1, vs2, rfl, hw4, hd4, nwd, pr1, pr2, x4, nw⟩
      change Paired (RL0 H4) vs2 (red p n R) at pr2
      have okf : OkM p n (red p n R) := red_ok hp ok
      have hl : (red p n R).length ≤ R.length := red_len
      refine ⟨_, rfl, dn, rfl, ⟨_, sql hd4⟩, fun D hD => lc_list (LP TT [] D H4 Rw fun j => (red p n R).take j) (.start rfl hD) (fun j H5 _ lp => sql (lp.ext.lst hd4)) ?_ ?_⟩
      · intro j x H5 hx lp
        obtain ⟨r, hr5, ⟨b, rfl, hb⟩⟩ := paired_get pr2 hx
        refine ⟨rfl, yes ⟨_, rfl, b, _, rfl, .inl ⟨sql (lp.ext.lst hb), fun l hl => ?_⟩⟩⟩
        exact lp.pushR hD (by simp) (.new hl) ⟨l, rfl, upd_same⟩ (take_succ_of hr5) (lz1000 (by rw [List.length_take]; omega))
      · intro H5 lp
        obtain ⟨ws, hw, pw, x5⟩ := lp
        have t1 : (red p n R).take vs2.length = red p n R := List.take_of_length_le (by rw [pr2.length]; exact Nat.le_refl _)
        simp only [t1] at pw
        exact ⟨D, ws, rfl, .inl ⟨sql hw, fun l hl => q _ _ ((x4.trans x5).trans (.new hl)) ⟨l, ws, rfl, upd_same, L2.Paired.mapP pw fun _ _ q => q.mono (.new (T := TT) (M := []) hl)⟩⟩⟩
end
end K17
end

section
set_option linter.all false
set_option maxRecDepth 100000
set_option maxHeartbeats 2000000
namespace K17
open PySem PySem.Spec PyProof.Rows L2 G17 M17
open GxR (TabG Tabbed)
theorem Au.p' {H : Hp} {v : V} {p n : Int} {ls : List (List M17.Row × List M17.Row)} (h : Au H v p n ls) : ∃ a l, v = .ref a ∧ H a = some (.tup [.int p, .int n, l]) ∧ Lss H l ls := h
/-- nothing told of the elements -/
def RT : Hp → V → M17.Row → Prop := fun _ _ _ => True
theorem stayT {T M : List Addr} {D : Addr} : Stay T M D RT := ⟨fun _ h => h, fun _ _ h => h⟩
theorem filter_take {f : M17.Row → Bool} {l : List M17.Row} {i : Nat} {r : M17.Row} (h : l[i]? = some r) : (l.take (i + 1)).filter f = (l.take i).filter f ++ (if f r then [r] else []) := by
  rw [take_succ_of h, List.filter_append, List.filter_cons, List.filter_nil]
theorem getD0 {α : Type} {l : List α} {i : Nat} {x d : α} (h : l[i]? = some x) : l.getD i d = x := by rw [List.getD_eq_getElem?_getD, h]; rfl
section
variable {P : Program} {w : World} {K : PySem.W.Frag} {mg : Str → Option Value} {base : Heap} {TT : List Addr}
theorem sc_span : FnScope ["_law_p", "_law_rows", "_law_columns", "_law_row"] ["_law_p", "_law_rows", "_law_columns", "_law_row"] (defScope (topS 50)) := ⟨rfl, rfl, rfl, by decide +kernel, rfl, by decide +kernel, by decide +kernel⟩
def sp_span (TT : List Addr) : Sp := fun vs H Q _ => ∃ v wv p n R W, vs = [.int p, v, .int ((n : Nat) : Int), wv] ∧ isP p ∧ n ≤ 5 ∧ R.length ≤ 500 ∧ OkM p n R ∧ OkR p n W ∧ Mx H v R ∧ Rw H wv W ∧ ∀ H', Ext TT [] H H' → Q (.bl (decide ((red p n (R ++ [W])).length = (red p n R).length))) H'
theorem c_span (F : ∃ f fd, FunAt K mg "_law_spanned" "_law_spanned" (topS 50) f fd) (T : Bl K mg) (C_law_reduced : Cal P w K mg base CX0 "_law_reduced" 1 ["_law_p", "_law_rows", "_law_columns"] (sp_lred TT)) : Cal P w K mg base CX0 "_law_spanned" 2 ["_law_p", "_law_rows", "_law_columns", "_law_row"] (sp_span TT) := by
  have SC := sc_span
  refine cal_of F sc_span (fun _ _ _ _ _ _ us hl => match us, hl with | [_, _, _, _], _ => rfl) (fun vs H Q E h => by obtain ⟨v, wv, p, n, R, W, rfl, _⟩ := h; rfl) fun f cdv A' outer s H vs Q E hr h => ?_
  obtain ⟨v, wv, p, n, R, W, rfl, hp, hn, hz, ok, okW, hv, hw, q⟩ := h
  refine ⟨_, (pss_one (ps_ret (pe_cmpR op_eq (pe_callB call_len_seq (by rfl) T.nlen (by decide +kernel) (pa_cons (pe_cal (E := E0) C_law_reduced hr (by decide) (by rfl) pass0 (pa_cons (pv 0) (pa_cons (pe_op op_catA (pv 1) (pe_tup (pa_cons (pv 3) pa_nil))) (pa_cons (pv 2) pa_nil)))) pa_nil)) (pe_callB call_len_seq (by rfl) T.nlen (by decide +kernel) (pa_cons (pe_cal (E := E0) C_law_reduced hr (by decide) (by rfl) pass0 (pa_cons (pv 0) (pa_cons (pv 1) (pa_cons (pv 2) pa_nil)))) pa_nil)) (nomark _)))), ?_⟩
  refine ⟨_, rfl, _, rfl, _, rfl, by show 1 ≤ sizeLine; decide, fun t ht => ?_⟩
  have x1 : Ext TT [] H (upd H t (.tup [wv])) := .new ht
  refine cat_mx (TT := TT) (hv.mono x1) (kn := [W]) ⟨t, _, rfl, upd_same, .cons (hw.mono x1) .nil⟩ (by simp; omega) fun H2 y x2 hy => ?_
  have ok2 : OkM p n (R ++ [W]) := fun r hr => (List.mem_append.mp hr).elim (ok r) fun z => by rw [List.mem_singleton.mp z]; exact okW
  refine ⟨_, rfl, y, p, n, R ++ [W], rfl, hp, hn, by simp; omega, ok2, hy, fun H3 y3 x3 hy3 => ?_⟩
  obtain ⟨a3, vs3, rfl, ha3, pr3⟩ := hy3
  have x13 := (x1.trans x2).trans x3
  refine ⟨a3, vs3, rfl, .inr (sqt ha3), _, rfl, _, rfl, _, rfl, v, p, n, R, rfl, hp, hn, by omega, ok, hv.mono x13, fun H4 y4 x4 hy4 => ?_⟩
  obtain ⟨a4, vs4, rfl, ha4, pr4⟩ := hy4
  refine ⟨a4, vs4, rfl, .inr (sqt ha4), rfl, ?_⟩
  have e : decide (V.int ((vs3.length : Nat) : Int) = V.int ((vs4.length : Nat) : Int)) = decide ((red p n (R ++ [W])).length = (red p n R).length) := by
    rw [Bool.eq_iff_iff, decide_eq_true_iff, decide_eq_true_iff, pr3.length, pr4.length]
    exact ⟨fun z => by have := V.int.inj z; omega, fun z => by rw [z]⟩
  show Q (.bl (decide (V.int ((vs3.length : Nat) : Int) = V.int ((vs4.length : Nat) : Int)))) H4
  rw [e]
  exact q _ (x13.trans x4)
theorem sc_serv : FnScope ["_law_audience_here", "_law_telling_here", "_law_listener", "_law_rows", "_law_row"] ["_law_audience_here", "_law_telling_here", "_law_listener"] (defScope (topS 59)) := ⟨rfl, rfl, rfl, by decide +kernel, rfl, by decide +kernel, by decide +kernel⟩
def sp_serv (TT : List Addr) : Sp := fun vs H Q _ => ∃ av v lv p n ls R kn wt, vs = [av, v, lv] ∧ isP p ∧ n ≤ 5 ∧ (R ++ kn).length ≤ 100 ∧ wt.length ≤ 100 ∧ OkM p n R ∧ OkM p n kn ∧ OkM p n wt ∧ Au H av p ((n : Nat) : Int) ls ∧ Mx H v R ∧ Ls H lv (kn, wt) ∧
  ∀ H' b, Ext TT [] H H' → (b = true ↔ ∀ W ∈ wt, Sp p n (R ++ kn) (g W)) → Q (.bl b) H'
theorem c_serv (F : ∃ f fd, FunAt K mg "_law_serves" "_law_serves" (topS 59) f fd) (T : Bl K mg) (C_law_reduced : Cal P w K mg base CX0 "_law_reduced" 1 ["_law_p", "_law_rows", "_law_columns"] (sp_lred TT)) (C_law_spanned : Cal P w K mg base CX0 "_law_spanned" 2 ["_law_p", "_law_rows", "_law_columns", "_law_row"] (sp_span TT)) :
    Cal P w K mg base CX0 "_law_serves" 3 ["_law_audience_here", "_law_telling_here", "_law_listener"] (sp_serv TT) := by
  have SC := sc_serv
  refine cal_of F sc_serv (fun _ _ _ _ _ _ us hl => match us, hl with | [_, _, _], _ => rfl) (fun vs H Q E h => by obtain ⟨av, v, lv, p, n, ls, R, kn, wt, rfl, _⟩ := h; rfl) fun f cdv A' outer s H vs Q E hr h => ?_
  obtain ⟨av, v, lv, p, n, ls, R, kn, wt, rfl, hp, hn, hz, hzw, okR, okk, okw, ⟨a, l, rfl, ha, hls⟩, hv, ⟨la, kv, uv, rfl, hla, hkn, hwt⟩, q⟩ := h
  refine ⟨_, (pss_cons (ps_set (i := 3) SC.nd rfl (.inr rfl) (pe_cal (E := E0) C_law_reduced hr (by decide) (by rfl) pass0 (pa_cons (pe_ix ix_tup (pv 0) pe_int (fun _ _ => rfl)) (pa_cons (pe_op op_catA (pv 1) (pe_ix ix_tup (pv 2) pe_int (fun _ _ => rfl))) (pa_cons (pe_ix ix_tup (pv 0) pe_int (fun _ _ => rfl)) pa_nil)))))
    (pss_one (ps_ret (pe_cmpR op_eq (pe_callB call_len_seq (by rfl) T.nlen (by decide +kernel) (pa_cons (pe_lc (own := [("_law_row", 4)]) (by rfl) SC.nd (pi_tup (pe_ix ix_tup (pv 2) pe_int (fun _ _ => rfl))) (blkOk_by (by kernel_rfl)) (by intro _ _ _ _ _; exact (pg_name (i := 4) SC.nd rfl (.inl rfl))) (by intro _ _ _ _ _; exact (pts_one (pt_not (pt_val (pe_cal (E := E0) C_law_spanned hr (by decide) (by rfl) pass0 (pa_cons (pe_ix (ix_tupK (K := K) rfl) (pv 0) pe_int (fun _ _ => rfl)) (pa_cons (pv 3) (pa_cons (pe_ix (ix_tupK (K := K) rfl) (pv 0) pe_int (fun _ _ => rfl)) (pa_cons (pv 4) pa_nil))))))))) (by intro _ _ _ _ _; exact (pv 4))) pa_nil)) pe_int (nomark _))))), ?_⟩
  have okk2 : OkM p n (R ++ kn) := fun r hr => (List.mem_append.mp hr).elim (okR r) (okk r)
  refine ⟨_, rfl, a, _, _, _, rfl, rfl, sqt ha, atI_nat (j := 0) rfl, _, rfl, _, rfl, la, _, _, _, rfl, rfl, sqt hla, atI_nat (j := 0) rfl, cat_mx (TT := TT) hv hkn (Nat.le_trans hz (by decide)) fun H1 y1 x1 hy1 => ?_⟩
  refine ⟨_, rfl, a, _, _, _, rfl, rfl, sqt (x1.tup _ _ ha), atI_nat (j := 1) rfl, y1, p, n, R ++ kn, rfl, hp, hn, by omega, okk2, hy1, fun H2 y2 x2 hy2 => ?_⟩
  have x12 := x1.trans x2
  obtain ⟨wa, wvs, rfl, hwa, pw⟩ := hwt.mono x12
  have hla2 := x12.tup _ _ hla
  have ha2 := x12.tup _ _ ha
  have hl : (red p n (R ++ kn)).length ≤ (R ++ kn).length := red_len
  refine ⟨_, rfl, la, _, _, _, rfl, rfl, sqt hla2, atI_nat (j := 1) rfl, wa, rfl, ⟨_, sqt hwa⟩, fun D hD => lc_tup (LP TT [] D H2 RT fun i => (wt.take i).filter fun W => !decide ((red p n (red p n (R ++ kn) ++ [W])).length = (red p n (red p n (R ++ kn))).length)) (.start rfl hD) (fun i H3 _ lp => sqt (lp.ext.tup _ _ hwa)) ?_ ?_⟩
  · intro i x H3 hx lp
    obtain ⟨W, hW, hr3⟩ := paired_get pw hx
    have x3 := lp.ext
    have okW := okw W (List.mem_of_getElem? hW)
    refine ⟨rfl, _, rfl, a, _, _, _, rfl, rfl, sqt (x3.tup _ _ ha2), atI_nat (j := 0) rfl, _, rfl, _, rfl, a, _, _, _, rfl, rfl, sqt (x3.tup _ _ ha2), atI_nat (j := 1) rfl, _, rfl, y2, x, p, n, red p n (R ++ kn), W, rfl, hp, hn, by omega, red_ok hp okk2, okW, hy2.mono x3, hr3.mono x3, fun H4 x4 => ⟨_, rfl, ite2 (fun e => ?_) (fun e => ?_)⟩⟩
    · refine ⟨_, rfl, lp.push hD (by simp) stayT x4 (b := W) ?_ True.intro (fun _ h => h) ?_⟩
      · show (List.filter _ _) = _
        rw [filter_take hW, if_pos e]
      · exact lz1000 (Nat.le_trans (List.length_filter_le _ _) (by rw [List.length_take]; omega))
    · refine lp.skip stayT (by simp) x4 ?_
      show (List.filter _ _) = _
      rw [filter_take hW, if_neg e, List.append_nil]
  · intro H3 lp
    obtain ⟨ws, hw3, pw3, x3⟩ := lp
    have t0 : wt.take wvs.length = wt := List.take_of_length_le (by rw [pw.length]; exact Nat.le_refl _)
    simp only [t0] at pw3
    refine ⟨D, ws, rfl, .inl (sql hw3), rfl, ?_⟩
    refine q _ _ (x12.trans x3) ?_
    show decide (V.int ((ws.length : Nat) : Int) = V.int 0) = true ↔ _
    rw [decide_eq_true_iff, pw3.length]
    constructor
    · intro z W hW
      have z1 := V.int.inj z
      have z2 : (wt.filter fun W => !decide ((red p n (red p n (R ++ kn) ++ [W])).length = (red p n (red p n (R ++ kn))).length)) = [] := List.eq_nil_of_length_eq_zero (by omega)
      have z3 := List.filter_eq_nil_iff.mp z2 W hW
      exact (law_iff hp okk2 (okw W hW)).mp (by simpa using z3)
    · intro z
      have z2 : (wt.filter fun W => !decide ((red p n (red p n (R ++ kn) ++ [W])).length = (red p n (red p n (R ++ kn))).length)) = [] := List.filter_eq_nil_iff.mpr fun W hW => by
        have := (law_iff hp okk2 (okw W hW)).mpr (z W hW)
        simpa using this
      rw [z2]; rfl
end
end K17
end

section
set_option linter.all false
set_option maxRecDepth 100000
set_option maxHeartbeats 2000000
namespace K17
open PySem PySem.Spec PyProof.Rows L2 G17 M17
open GxR (TabG Tabbed)
section
variable {P : Program} {w : World} {K : PySem.W.Frag} {mg : Str → Option Value} {base : Heap} {TT : List Addr}
theorem sc_decs : FnScope ["_law_audience_here", "_law_rows", "_law_letters", "_law_row", "_law_p", "_law_j", "_law_x", "_law_k"] ["_law_audience_here", "_law_rows", "_law_letters", "_law_row"] (defScope (topS 60)) := ⟨rfl, rfl, rfl, by decide +kernel, rfl, by decide +kernel, by decide +kernel⟩
def sp_decs (TT : List Addr) : Sp := fun vs H Q _ => ∃ av v lv wv p n ls R L W, vs = [av, v, lv, wv] ∧ isP p ∧ n ≤ 5 ∧ R.length ≤ 100 ∧ OkM p n R ∧ OkR p n W ∧ Au H av p ((n : Nat) : Int) ls ∧ Mx H v R ∧ Rw H lv L ∧ Rw H wv W ∧ Dec p n R L W ∧ ∀ H', Ext TT [] H H' → Q (.bl true) H'
theorem c_decs (F : ∃ f fd, FunAt K mg "_law_decodes" "_law_decodes" (topS 60) f fd) (T : Bl K mg) : Cal P w K mg base CX0 "_law_decodes" 1 ["_law_audience_here", "_law_rows", "_law_letters", "_law_row"] (sp_decs TT) := by
  have SC := sc_decs
  refine cal_of F sc_decs (fun _ _ _ _ _ _ us hl => match us, hl with | [_, _, _, _], _ => rfl) (fun vs H Q E h => by obtain ⟨av, v, lv, wv, p, n, ls, R, L, W, rfl, _⟩ := h; rfl) fun f cdv A' outer s H vs Q E hr h => ?_
  obtain ⟨av, v, lv, wv, p, n, ls, R, L, W, rfl, hp, hn, hz, okR, okW, ⟨a, l, rfl, ha, hls⟩, ⟨ra, rvs, rfl, hra, pr⟩, ⟨la, rfl, hla⟩, ⟨wa, rfl, hwa⟩, ⟨hL, hb, hd⟩, q⟩ := h
  refine ⟨_, (pss_cons (ps_set (i := 4) SC.nd rfl (.inr rfl) (pe_ix ix_tup (pv 0) pe_int (fun _ _ => rfl)))
    (pss_cons (ps_if (PW.pt (pw_or (pt_not (pt_val (pe_callB call_isi (by rfl) T.nisinstance (by decide +kernel) (pa_cons (pv 2) (pa_cons (pe_bltn (v := .ty "tuple") (u := .type "tuple") (by rfl) T.ntuple (by decide +kernel) rfl) pa_nil))))) (pw_or1 (pt_cmpR op_ne (pe_callB call_len_seq (by rfl) T.nlen (by decide +kernel) (pa_cons (pv 2) pa_nil)) (pe_callB call_len_seq (by rfl) T.nlen (by decide +kernel) (pa_cons (pv 1) pa_nil)) (nomark _))))) (pss_one (ps_ret pe_bl)) pss_nil)
    (pss_cons (ps_if (pt_cmpR op_gt (pe_callB call_len_seq (by rfl) T.nlen (by decide +kernel) (pa_cons (pe_lc (own := [("_law_x", 6)]) (by rfl) SC.nd (pi_tup (pv 2)) (blkOk_by (by kernel_rfl)) (by intro _ _ _ _ _; exact (pg_name (i := 6) SC.nd rfl (.inl rfl))) (by intro _ _ _ _ _; exact (pts_one (PW.pt (pw_or (pt_not (pt_val (pe_callB (call_isiK (K := K) rfl) (by rfl) T.nisinstance (by decide +kernel) (pa_cons (pv 6) (pa_cons (pe_bltn (v := .ty "int") (u := .type "int") (by rfl) T.nint (by decide +kernel) rfl) pa_nil))))) (pw_or (pt_val (pe_callB (call_isiK (K := K) rfl) (by rfl) T.nisinstance (by decide +kernel) (pa_cons (pv 6) (pa_cons (pe_bltn (v := .ty "bool") (u := .type "bool") (by rfl) T.nbool (by decide +kernel) rfl) pa_nil)))) (pw_or (pt_cmpR op_lt (pv 6) pe_int (nomark _)) (pw_or1 (pt_cmpR op_ge (pv 6) (pv 4) (nomark _))))))))) (by intro _ _ _ _ _; exact (pv 6))) pa_nil)) pe_int (nomark _)) (pss_one (ps_ret pe_bl)) pss_nil)
    (pss_cons (ps_for PassesOwn.never rfl (pi_range1 (by rfl) T.nrange (pa_cons (pe_ix ix_tup (pv 0) pe_int (fun _ _ => rfl)) pa_nil)) (pg_name (i := 5) SC.nd rfl (.inr rfl)) (pss_one (ps_if (pt_cmpR op_ne (pe_op op_mod (pe_callTy call_int1 (by rfl) T.nint (by decide +kernel) (pa_cons (pe_callB (cr_sum rfl) (by rfl) T.nsum (by decide +kernel) (pa_cons (pe_lc (own := [("_law_k", 7)]) (by rfl) SC.nd (pi_range1 (by rfl) T.nrange (pa_cons (pe_callB call_len_seq (by rfl) T.nlen (by decide +kernel) (pa_cons (pv 1) pa_nil)) pa_nil)) (blkOk_by (by kernel_rfl)) (by intro _ _ _ _ _; exact (pg_name (i := 7) SC.nd rfl (.inl rfl))) (by intro _ _ _ _ _; exact pts_nil) (by intro _ _ _ _ _; exact (pe_op op_mul (pe_ix (ix_tupK (K := K) rfl) (pe_ix (ix_tupK (K := K) rfl) (pv 1) (pv 7) (fun _ _ => rfl)) (pv 5) (fun _ _ => rfl)) (pe_ix (ix_tupK (K := K) rfl) (pv 2) (pv 7) (fun _ _ => rfl))))) pa_nil)) pa_nil)) (pv 4)) (pe_ix ix_tup (pv 3) (pv 5) (fun _ _ => rfl)) (nomark _)) (pss_one (ps_ret pe_bl)) pss_nil)))
    (pss_one (ps_ret pe_bl)))))), ?_⟩
  have p5 := hp.five
  have p2 := hp.two
  have lR := pr.length
  refine ⟨_, rfl, a, _, _, _, rfl, rfl, sqt ha, atI_nat (j := 0) rfl, ?_⟩
  refine ⟨_, rfl, _, _, _, _, true, rfl, .ty _, (Kd.tup hla).ty, ktup (Kd.tup hla), true, rfl, iteF ?_⟩
  refine ⟨_, rfl, la, _, rfl, .inr (sqt hla), _, rfl, ra, _, rfl, .inr (sqt hra), rfl, _, rfl, ite2 (fun e => absurd e (by rw [List.length_map, hL, lR]; simp)) (fun _ => ?_)⟩
  refine ⟨_, rfl, la, rfl, ⟨_, sqt hla⟩, fun D hD => lc_tup (LP TT [] D H RI fun _ => []) (.start rfl hD) (fun i H3 _ lp => sqt (lp.ext.tup _ _ hla)) ?_ ?_⟩
  · intro i x H3 hx lp
    obtain ⟨rfl, hi⟩ := getI hx
    have hb1 : 0 ≤ g L i ∧ g L i < p := by rw [g_of (List.getElem?_eq_getElem hi)]; exact hb _ (List.getElem_mem hi)
    obtain ⟨b, c, h1, h2, h3, h4, h5⟩ := kint (K := K) (Kd.int (H := H3) (g L i))
    obtain ⟨rfl, rfl⟩ := h5 rfl
    refine ⟨rfl, _, rfl, _, _, _, _, true, rfl, .ty _, (Kd.int _).ty, h1, true, rfl, iteF ?_⟩
    refine ⟨_, rfl, _, _, _, _, false, rfl, .ty _, (Kd.int _).ty, h2, false, rfl, iteF ?_⟩
    refine ⟨_, rfl, _, _, rfl, rfl, _, rfl, ite2 (fun e => absurd (of_decide_eq_true e) (by omega)) (fun _ => ?_)⟩
    refine ⟨_, rfl, _, rfl, _, _, rfl, rfl, _, rfl, ite2 (fun e => absurd (of_decide_eq_true e) (by omega)) (fun _ => ?_)⟩
    exact lp.skip stayI (by simp) (.refl _) rfl
  · intro H3 lp
    have hI := lp.ints
    have x3 := lp.ext
    refine ⟨D, _, rfl, .inl (sql hI), _, _, rfl, rfl, false, rfl, iteF ?_⟩
    refine ⟨_, rfl, a, _, _, _, rfl, rfl, sqt (x3.tup _ _ ha), atI_nat (j := 1) rfl, ((n : Nat) : Int), rfl, by omega, by omega, for_range (lo := 0) (n := n) (fun i σ H' => (∃ y5, σ = [some (.ref a), some (.ref ra), some (.ref la), some (.ref wa), some (.int p), y5, none, none]) ∧ Ext TT [] H H') ⟨⟨_, rfl⟩, x3⟩ ?_ ?_⟩
    · rintro j σ H4 hj ⟨⟨y5, rfl⟩, x4⟩
      rw [Int.zero_add]
      have hra4 := x4.tup _ _ hra
      refine ⟨_, rfl, ra, _, rfl, .inr (sqt hra4), ((rvs.length : Nat) : Int), rfl, by omega, by omega, fun D2 hD2 => lc_range (lo := 0) (n := rvs.length) (LP TT [] D2 H4 RI fun k => (List.range k).map fun k => g (R.getD k []) j * L.getD k 0) (.start rfl hD2) ?_ ?_⟩
      · intro k H5 hk lp2
        rw [Int.zero_add]
        have x5 := x4.trans lp2.ext
        obtain ⟨r, hr5⟩ : ∃ r, R[k]? = some r := ⟨_, List.getElem?_eq_getElem (by omega)⟩
        obtain ⟨y, hy, ⟨b, rfl, hb5⟩⟩ := paired_get' pr hr5
        have orr := okR r (List.mem_of_getElem? hr5)
        have gj := g_ok (by omega) orr j
        refine ⟨rfl, yes ⟨_, rfl, _, rfl, ra, _, _, _, rfl, rfl, sqt (x5.tup _ _ hra), atI_nat hy, _, rfl, b, _, _, _, rfl, rfl, sqt (x5.tup _ _ hb5), atI_nat (K17.atI (by rw [orr.1]; exact hj)), _, rfl, _, rfl, la, _, _, _, rfl, rfl, sqt (x5.tup _ _ hla), atI_nat (K17.atI (by omega)), _, _, rfl, rfl, .inl (show -(2 ^ 64) < g r j ∧ g r j < 2 ^ 64 by omega), ?_⟩⟩
        refine lp2.pushI hD2 (by simp) (.refl _) ?_ (lz1000 (by rw [List.length_map, List.length_range]; omega))
        rw [range_map_succ, getD_row hr5]
        rfl
      · intro H5 lp2
        have hI5 := lp2.ints
        have x5 := x4.trans lp2.ext
        have es : ((List.range rvs.length).map fun k => g (R.getD k []) j * L.getD k 0).sum % p = g W j := by
          rw [lR]
          exact hd j hj
        refine ⟨D2, _, rfl, sql hI5, .inl ⟨_, rfl, _, rfl, _, _, rfl, rfl, (show (0 : Int) < p by omega), ?_⟩⟩
        refine ⟨_, rfl, _, rfl, wa, _, _, _, rfl, rfl, sqt (x5.tup _ _ hwa), atI_nat (K17.atI (by rw [okW.1]; exact hj)), rfl, _, rfl, ite2 (fun e => ?_) (fun _ => ⟨⟨_, rfl⟩, x5⟩)⟩
        have e' : (!decide (V.int (((List.range rvs.length).map fun k => g (R.getD k []) j * L.getD k 0).sum % p) = V.int (g W j))) = true := e
        rw [es] at e'
        exact absurd e' (by simp)
    · rintro σ H4 ⟨⟨y5, rfl⟩, x4⟩
      exact q _ x4
end
end K17
end

section
set_option linter.all false
set_option maxRecDepth 100000
set_option maxHeartbeats 2000000
/-! lists of small ints, told of weakly; blocks joined by a word -/
namespace K17
open PySem PySem.Spec PyProof.Rows L2 G17 M17
theorem seq_by {a b : TS} {D : Ends} {σ : L2.St} {H : Hp} (J : L2.St → Hp → Prop) (hb : ∀ σ' H', J σ' H' → b D σ' H') (ha : (∀ σ' H', J σ' H' → b D σ' H') → a { D with nx := b D } σ H) : tSeq a b D σ H := ha hb
/-- the list at D: i ints, each of them Pr -/
def LW (T M : List Addr) (D : Addr) (H1 : Hp) (Pr : Int → Prop) (i : Nat) (H : Hp) : Prop := ∃ ns : List Int, H D = some (.lst (ns.map V.int)) ∧ ns.length = i ∧ (∀ z ∈ ns, Pr z) ∧ Ext T M H1 H
section
variable {T M : List Addr} {D : Addr} {H1 H H4 : Hp} {Pr : Int → Prop} {i : Nat} {z : Int}
theorem LW.start (hD : H1 D = none) : LW T M D H1 Pr 0 (upd H1 D (.lst [])) := ⟨[], upd_same, rfl, fun z hz => by simp at hz, .new hD⟩
theorem LW.push (p : LW T M D H1 Pr i H) (hD : H1 D = none) (hM : D ∉ M) (x : Ext T M H H4) (hz : Pr z) (hi : i < 1000) : ∃ acc, H4 D = some (.lst acc) ∧ acc.length < sizeLine ∧ LW T M D H1 Pr (i + 1) (upd H4 D (.lst (acc ++ [.int z]))) := by
  obtain ⟨ns, h1, h2, h3, h4⟩ := p
  refine ⟨_, x.keep D _ hM h1 (fun ps z => by cases z), by rw [List.length_map, h2]; exact lz1000 (by omega), ns ++ [z], by rw [List.map_append]; exact upd_same, by rw [List.length_append, h2]; rfl, fun y hy => ?_, (h4.trans x).mut hD⟩
  rcases List.mem_append.mp hy with e | e
  · exact h3 y e
  · rw [List.mem_singleton.mp e]; exact hz
theorem LW.ext (p : LW T M D H1 Pr i H) : Ext T M H1 H := let ⟨_, _, _, _, h⟩ := p; h
end
theorem not_pool {q D : Addr} {H : Hp} (hq : PoolAt H q) (hD : H D = none) : D ∉ [q] := fun z => by
  obtain ⟨ns, h, _⟩ := hq
  rw [List.mem_singleton.mp z, h] at hD
  cases hD
theorem Ext.poolAt {T : List Addr} {q : Addr} {H H' : Hp} (x : Ext T [q] H H') (h : PoolAt H q) : PoolAt H' q := x.pool q (by simp) h
/-- a tuple stays, a list other than the pool stays -/
theorem Ext.lstq {T : List Addr} {q l : Addr} {H H' : Hp} {xs : List V} (x : Ext T [q] H H') (hl : l ≠ q) (h : H l = some (.lst xs)) : H' l = some (.lst xs) := x.keep l _ (fun z => hl (List.mem_singleton.mp z)) h (fun ps z => by cases z)
theorem atI_m1 {vs : List V} (h : 0 < vs.length) : ∃ y, L2.atI vs (-1) = some y ∧ vs[vs.length - 1]? = some y := by
  have e : ixN vs.length (-1) = some (vs.length - 1) := by
    unfold ixN
    rw [if_neg (by decide), if_pos (by omega)]
    congr 1
    omega
  refine ⟨vs[vs.length - 1], ?_, List.getElem?_eq_getElem (by omega)⟩
  unfold L2.atI
  rw [e, Option.bind_some, List.getElem?_eq_getElem (by omega)]
end K17
end

section
set_option linter.all false
set_option maxRecDepth 100000
set_option maxHeartbeats 2000000
namespace K17
open PySem PySem.Spec PyProof.Rows L2 G17 M17
open GxR (TabG Tabbed)
/-- the list at l: i rows -/
def OutI (l : Addr) (p : Int) (n i : Nat) (H : Hp) : Prop := ∃ vs Rs, H l = some (.lst vs) ∧ Paired (Rw H) vs Rs ∧ OkM p n Rs ∧ Rs.length = i
theorem OutI.mono {T : List Addr} {q l : Addr} {p : Int} {n i : Nat} {H H' : Hp} (h : OutI l p n i H) (x : Ext T [q] H H') (hl : l ≠ q) : OutI l p n i H' := by
  obtain ⟨vs, Rs, h1, h2, h3⟩ := h
  exact ⟨vs, Rs, x.lstq hl h1, L2.Paired.mapP h2 fun _ _ r => r.mono x, h3⟩
theorem OutI.push {l : Addr} {p : Int} {n i : Nat} {H : Hp} {y : V} {r : M17.Row} {Q : VK} {σ : L2.St} (h : OutI l p n i H) (hy : Rw H y r) (hr : OkR p n r) (hi : i < 1000) (q : ∀ o, OutI l p n (i + 1) (upd H l o) → Q .non (upd H l o)) : tNil σ H fun xs H2 => rAppend (.ref l) (y :: xs) H2 Q := by
  obtain ⟨vs, Rs, h1, h2, h3, h4⟩ := h
  refine ⟨l, vs, y, rfl, rfl, h1, by rw [h2.length, h4]; exact lz1000 (by omega), q _ ⟨vs ++ [y], Rs ++ [r], upd_same, ?_, ?_, by rw [List.length_append, h4]; rfl⟩⟩
  · have u : ∀ {v r}, Rw H v r → Rw (upd H l (.lst (vs ++ [y]))) v r := fun ⟨b, e, hb⟩ => ⟨b, e, tup_upd h1 (fun xs z => by cases z) hb⟩
    exact paired_append (L2.Paired.mapP h2 fun _ _ q => u q) (.cons (u hy) .nil)
  · intro r' hr'
    rcases List.mem_append.mp hr' with e | e
    · exact h3 _ e
    · rw [List.mem_singleton.mp e]; exact hr
theorem OutI.ty {K : PySem.W.Frag} {l : Addr} {p : Int} {n i : Nat} {H : Hp} (h : OutI l p n i H) : tyV K "list" (.ref l) H := let ⟨_, _, h1, _⟩ := h; .inl ⟨rfl, _, sql h1⟩
section
variable {P : Program} {w : World} {K : PySem.W.Frag} {mg : Str → Option Value} {base : Heap} {TT : List Addr}
theorem sc_mat : FnScope ["_law_pool_here", "_law_p", "_law_columns", "_law_many", "_law_out", "_law_k", "_law_way", "_law_one", "_law_row", "_law_j"] ["_law_pool_here", "_law_p", "_law_columns", "_law_many"] (defScope (topS 51)) := ⟨rfl, rfl, rfl, by decide +kernel, rfl, by decide +kernel, by decide +kernel⟩
def sp_mat (TT : List Addr) : Sp := fun vs H Q _ => ∃ q p n m, vs = [.ref q, .int p, .int ((n : Nat) : Int), .int ((m : Nat) : Int)] ∧ isP p ∧ 1 ≤ n ∧ n ≤ 5 ∧ m ≤ 10 ∧ PoolAt H q ∧ ∀ H' y R, Ext TT [q] H H' → PoolAt H' q → Mx H' y R → OkM p n R → R.length = m → Q y H'
def MatJ (TT : List Addr) (H : Hp) (q : Addr) (p : Int) (n m : Nat) (l : Addr) (i : Nat) : L2.St → Hp → Prop := fun σ H' => ∃ k way one d ns, σ = [some (.ref q), some (.int p), some (.int ((n : Nat) : Int)), some (.int ((m : Nat) : Int)), some (.ref l), k, some (.int way), some (.int one), some (.ref d), none] ∧
  H' d = some (.lst (ns.map V.int)) ∧ OkR p n ns ∧ OutI l p n i H' ∧ Ext TT [q] H H' ∧ PoolAt H' q
theorem c_mat (F : ∃ f fd, FunAt K mg "_law_matrix" "_law_matrix" (topS 51) f fd) (T : Bl K mg) (C_law_draw : Cal P w K mg base CX0 "_law_draw" 1 ["_law_pool_here", "_law_many"] (sp_draw TT)) : Cal P w K mg base CX0 "_law_matrix" 2 ["_law_pool_here", "_law_p", "_law_columns", "_law_many"] (sp_mat TT) := by
  have SC := sc_mat
  refine cal_of F sc_mat (fun _ _ _ _ _ _ us hl => match us, hl with | [_, _, _, _], _ => rfl) (fun vs H Q E h => by obtain ⟨q, p, n, m, rfl, _⟩ := h; rfl) fun f cdv A' outer s H vs Q E hr h => ?_
  obtain ⟨q, p, n, m, rfl, hp, n1, n5, hm, hP, Qq⟩ := h
  refine ⟨_, (pss_cons (ps_set (i := 4) SC.nd rfl (.inr rfl) (pe_lst pa_nil))
    (pss_cons (ps_for PassesOwn.never rfl (pi_range1 (by rfl) T.nrange (pa_cons (pv 3) pa_nil)) (pg_name (i := 5) SC.nd rfl (.inl rfl)) (pss_cons (ps_set (i := 6) SC.nd rfl (.inl rfl) (pe_cal (E := E0) C_law_draw hr (by decide) (by rfl) pass0 (pa_cons (pv 0) (pa_cons pe_int pa_nil))))
      (pss_cons (ps_set (i := 7) SC.nd rfl (.inr rfl) (pe_cal (E := E0) C_law_draw hr (by decide) (by rfl) pass0 (pa_cons (pv 0) (pa_cons (pv 2) pa_nil))))
      (pss_cons (ps_setLc (i := 8) (own := [("_law_j", 9)]) (by rfl) SC.nd rfl rfl (sw_true rfl rfl rfl (by kernel_rfl)) (pi_range1 (by rfl) T.nrange (pa_cons (pv 2) pa_nil)) (blkOk_by (by kernel_rfl)) (by intro _ _ _ _ _; exact (pg_name (i := 9) SC.nd rfl (.inl rfl))) (by intro _ _ _ _ _; exact pts_nil) (by intro _ _ _ _ _; exact (pe_op op_mod (pe_callTy call_int1 (by rfl) T.nint (by decide +kernel) (pa_cons (pe_cal (E := E0) C_law_draw hr (by decide) (by rfl) pass0 (pa_cons (pv 0) (pa_cons pe_int pa_nil))) pa_nil)) (pv 1))))
      (pss_cons (ps_if (pt_cmpR op_eq (pv 6) pe_int (nomark _)) (pss_one (ps_setLc (i := 8) (own := [("_law_j", 9)]) (by rfl) SC.nd rfl rfl (sw_true rfl rfl rfl (by kernel_rfl)) (pi_range1 (by rfl) T.nrange (pa_cons (pv 2) pa_nil)) (blkOk_by (by kernel_rfl)) (by intro _ _ _ _ _; exact (pg_name (i := 9) SC.nd rfl (.inl rfl))) (by intro _ _ _ _ _; exact pts_nil) (by intro _ _ _ _ _; exact pe_int))) pss_nil)
      (pss_cons (ps_if (PW.pt (pw_or (pt_cmpR op_eq (pv 6) pe_int (nomark _)) (pw_or1 (pt_cmpR op_eq (pv 6) pe_int (nomark _))))) (pss_one (ps_setLc (i := 8) (own := [("_law_j", 9)]) (by rfl) SC.nd rfl rfl (sw_true rfl rfl rfl (by kernel_rfl)) (pi_range1 (by rfl) T.nrange (pa_cons (pv 2) pa_nil)) (blkOk_by (by kernel_rfl)) (by intro _ _ _ _ _; exact (pg_name (i := 9) SC.nd rfl (.inl rfl))) (by intro _ _ _ _ _; exact pts_nil) (by intro _ _ _ _ _; exact (pe_callTy call_int1 (by rfl) T.nint (by decide +kernel) (pa_cons (pe_cmpR op_eq (pv 9) (pv 7) (nomark _)) pa_nil))))) pss_nil)
      (pss_cons (ps_if (pt_cmpR op_eq (pv 6) pe_int (nomark _)) (pss_one (ps_setLc (i := 8) (own := [("_law_j", 9)]) (by rfl) SC.nd rfl rfl (sw_true rfl rfl rfl (by kernel_rfl)) (pi_range1 (by rfl) T.nrange (pa_cons (pv 2) pa_nil)) (blkOk_by (by kernel_rfl)) (by intro _ _ _ _ _; exact (pg_name (i := 9) SC.nd rfl (.inl rfl))) (by intro _ _ _ _ _; exact pts_nil) (by intro _ _ _ _ _; exact pe_int))) pss_nil)
      (pss_cons (ps_if (PW.pt (pw_and (pt_cmpR op_eq (pv 6) pe_int (nomark _)) (pw_and1 (pt_cmpR op_gt (pe_callB call_len_seq (by rfl) T.nlen (by decide +kernel) (pa_cons (pv 4) pa_nil)) pe_int (nomark _))))) (pss_one (ps_setLc (i := 8) (own := [("_law_j", 9)]) (by rfl) SC.nd rfl rfl (sw_true rfl rfl rfl (by kernel_rfl)) (pi_range1 (by rfl) T.nrange (pa_cons (pv 2) pa_nil)) (blkOk_by (by kernel_rfl)) (by intro _ _ _ _ _; exact (pg_name (i := 9) SC.nd rfl (.inl rfl))) (by intro _ _ _ _ _; exact pts_nil) (by intro _ _ _ _ _; exact (pe_op op_mod (pe_callTy call_int1 (by rfl) T.nint (by decide +kernel) (pa_cons (pe_op op_add (pe_op op_mul (pe_ix (ix_tupK (K := K) rfl) (pe_ix (ix_listK (K := K) rfl) (pv 4) (pe_un un_neg pe_int) (fun _ _ => rfl)) (pv 9) (fun _ _ => rfl)) pe_int) (pe_callTy call_int1 (by rfl) T.nint (by decide +kernel) (pa_cons (pe_cmpR op_eq (pv 9) (pv 7) (nomark _)) pa_nil))) pa_nil)) (pv 1))))) pss_nil)
      (pss_one (ps_expr (pe_bm PySem.F.plainAttrs_list PySem.F.slot_list_append PySem.F.type_list_append mt_append (pv 4) (pa_cons (pe_callTy call_tuple_of (by rfl) T.ntuple (by decide +kernel) (pa_cons (pv 8) pa_nil)) pa_nil))))))))))))
    (pss_one (ps_ret (pe_callTy call_tuple_of (by rfl) T.ntuple (by decide +kernel) (pa_cons (pv 4) pa_nil)))))), ?_⟩
  have p5 := hp.five
  have p2 := hp.two
  refine ⟨Nat.zero_le _, fun l hl => ?_⟩
  have hlq : l ≠ q := fun z => not_pool hP hl (by rw [z]; simp)
  have x0 : Ext TT [q] H (upd H l (.lst [])) := .new hl
  refine ⟨_, rfl, ((m : Nat) : Int), rfl, by omega, by omega, for_range (lo := 0) (n := m) (fun i σ H' => (∃ y5 y6 y7 y8, σ = [some (.ref q), some (.int p), some (.int ((n : Nat) : Int)), some (.int ((m : Nat) : Int)), some (.ref l), y5, y6, y7, y8, none]) ∧ OutI l p n i H' ∧ Ext TT [q] H H' ∧ PoolAt H' q)
    ⟨⟨_, _, _, _, rfl⟩, ⟨[], [], upd_same, .nil, fun r hr => by simp at hr, rfl⟩, x0, x0.poolAt hP⟩ ?_ ?_⟩
  · rintro i σ H3 hi ⟨⟨y5, y6, y7, y8, rfl⟩, hO, x3, hP3⟩
    refine ⟨_, rfl, q, 8, rfl, hP3, by decide, fun H4 way x4 hP4 w0 w1 => ?_⟩
    refine ⟨_, rfl, _, rfl, q, n, rfl, hP4, by omega, fun H5 one x5 hP5 o0 o1 => ?_⟩
    have hO5 := (hO.mono x4 hlq).mono x5 hlq
    have x35 := (x3.trans x4).trans x5
    refine ⟨_, rfl, ((n : Nat) : Int), rfl, by omega, by omega, fun D hD => lc_range (lo := 0) (n := n) (fun j H' => LW TT [q] D H5 (fun z => 0 ≤ z ∧ z < p) j H' ∧ PoolAt H' q) ⟨.start hD, (Ext.new (T := TT) (M := [q]) hD).poolAt hP5⟩ ?_ ?_⟩
    · rintro j H6 hj ⟨lw, hP6⟩
      refine ⟨rfl, yes ⟨_, rfl, q, 2520, rfl, hP6, by decide, fun H7 r x7 hP7 r0 r1 => .inl ⟨_, rfl, _, rfl, _, _, rfl, rfl, (show (0 : Int) < p by omega), ?_⟩⟩⟩
      obtain ⟨acc, a1, a2, a3⟩ := lw.push hD (not_pool hP5 hD) x7 (z := r % p) ⟨Int.emod_nonneg _ (by omega), Int.emod_lt_of_pos _ (by omega)⟩ (by omega)
      exact ⟨acc, a1, a2, a3, a3.ext.poolAt hP5⟩
    · rintro H6 ⟨⟨ns, d1, d2, d3, x6⟩, hP6⟩
      have hD0 : D ∉ [q] := not_pool hP5 hD
      have j0 : MatJ TT H q p n m l i [some (.ref q), some (.int p), some (.int ((n : Nat) : Int)), some (.int ((m : Nat) : Int)), some (.ref l), some (.int (0 + (i : Int))), some (.int way), some (.int one), some (.ref D), none] H6 :=
        ⟨_, way, one, D, ns, rfl, d1, ⟨d2, d3⟩, hO5.mono x6 hlq, x35.trans x6, hP6⟩
      (dsimp only [gName])
      refine seq_by (MatJ TT H q p n m l i) (fun σ' H' jj => ?_) (fun cont => ?_)
      · refine seq_by (MatJ TT H q p n m l i) (fun σ' H' jj => ?_) (fun cont => ?_)
        · refine seq_by (MatJ TT H q p n m l i) (fun σ' H' jj => ?_) (fun cont => ?_)
          · refine seq_by (MatJ TT H q p n m l i) (fun σ' H' jj => ?_) (fun cont => ?_)
            · obtain ⟨k, way, one, d, ns, rfl, hd, hns, hO, x6, hP6⟩ := id jj
              refine ⟨_, rfl, hO.ty, _, rfl, d, _, rfl, .inl ⟨sql hd, fun t ht => ?_⟩⟩
              have xt : Ext TT [q] H' (upd H' t (.tup (ns.map V.int))) := .new ht
              refine OutI.push (hO.mono xt hlq) ⟨t, rfl, upd_same⟩ hns (by omega) fun o hO2 => ?_
              have nl2 : H l = none := hl
              exact ⟨⟨_, _, _, _, rfl⟩, hO2, (x6.trans xt).mut hl, ((x6.trans xt).mut (p := l) (o := o) hl).poolAt hP⟩
            · obtain ⟨k, way, one, d, ns, rfl, hd, hns, hO, x6, hP6⟩ := id jj
              refine ⟨_, rfl, rfl, _, rfl, ite2 (fun _ => ?_) (fun _ => cont _ _ jj)⟩
              obtain ⟨vs, Rs, o1, o2, o3, o4⟩ := id hO
              refine ⟨_, rfl, l, vs, rfl, .inl (sql o1), _, _, rfl, rfl, _, rfl, ite2 (fun e => ?_) (fun _ => cont _ _ jj)⟩
              have hpos : 0 < vs.length := by have := of_decide_eq_true e; omega
              obtain ⟨y, ey, ey2⟩ := atI_m1 hpos
              obtain ⟨r, hr, ⟨b, rfl, hb⟩⟩ := paired_get o2 ey2
              have orr := o3 r (List.mem_of_getElem? hr)
              refine ⟨_, rfl, ((n : Nat) : Int), rfl, by omega, by omega, fun D hD => lc_range (lo := 0) (n := n) (LW TT [q] D H' (fun z => 0 ≤ z ∧ z < p)) (.start hD) (fun j H7 hj lw => ?_) ?_⟩
              · have gj := g_ok (by omega) orr j
                rw [Int.zero_add]
                exact ⟨rfl, yes ⟨_, rfl, 1, rfl, l, _, _, _, rfl, rfl, sql (lw.ext.lstq hlq o1), ey, _, rfl, b, _, _, _, rfl, rfl, sqt (lw.ext.tup _ _ hb), atI_nat (K17.atI (by rw [orr.1]; exact hj)), _, _, rfl, rfl, .inl (show -(2 ^ 64) < g r j ∧ g r j < 2 ^ 64 by omega), _, rfl, _, rfl, rfl,
                  .inr ⟨_, rfl, _, _, rfl, rfl, .inl ⟨_, rfl, _, rfl, _, _, rfl, rfl, (show (0 : Int) < p by omega), lw.push hD (not_pool hP6 hD) (.refl _) ⟨Int.emod_nonneg _ (by omega), Int.emod_lt_of_pos _ (by omega)⟩ (by omega)⟩⟩⟩⟩
              · rintro H7 ⟨ns, d1, d2, d3, x7⟩
                exact cont _ _ ⟨_, way, one, D, ns, rfl, d1, ⟨d2, d3⟩, hO.mono x7 hlq, x6.trans x7, x7.poolAt hP6⟩
          · obtain ⟨k, way, one, d, ns, rfl, hd, hns, hO, x6, hP6⟩ := id jj
            refine ⟨_, rfl, rfl, _, rfl, ite2 (fun _ => ?_) (fun _ => cont _ _ jj)⟩
            refine ⟨_, rfl, ((n : Nat) : Int), rfl, by omega, by omega, fun D hD => lc_range (lo := 0) (n := n) (LW TT [q] D H' (fun z => 0 ≤ z ∧ z < p)) (.start hD) (fun j H7 hj lw => ⟨rfl, yes (lw.push hD (not_pool hP6 hD) (.refl _) (z := 1) (by omega) (by omega))⟩) ?_⟩
            rintro H7 ⟨ns, d1, d2, d3, x7⟩
            exact cont _ _ ⟨_, way, one, D, ns, rfl, d1, ⟨d2, d3⟩, hO.mono x7 hlq, x6.trans x7, x7.poolAt hP6⟩
        · obtain ⟨k, way, one, d, ns, rfl, hd, hns, hO, x6, hP6⟩ := id jj
          refine ⟨_, rfl, rfl, _, rfl, ite2 (fun _ => ?_) (fun _ => ⟨_, rfl, rfl, _, rfl, ite2 (fun _ => ?_) (fun _ => cont _ _ jj)⟩)⟩
          · refine iteT ?_
            refine ⟨_, rfl, ((n : Nat) : Int), rfl, by omega, by omega, fun D hD => lc_range (lo := 0) (n := n) (LW TT [q] D H' (fun z => 0 ≤ z ∧ z < p)) (.start hD) (fun j H7 hj lw => ⟨rfl, yes ⟨_, rfl, _, rfl, rfl, .inr ⟨_, rfl, lw.push hD (not_pool hP6 hD) (.refl _) (by split <;> omega) (by omega)⟩⟩⟩) ?_⟩
            rintro H7 ⟨ns, d1, d2, d3, x7⟩
            exact cont _ _ ⟨_, way, one, D, ns, rfl, d1, ⟨d2, d3⟩, hO.mono x7 hlq, x6.trans x7, x7.poolAt hP6⟩
          · skip
            refine ⟨_, rfl, ((n : Nat) : Int), rfl, by omega, by omega, fun D hD => lc_range (lo := 0) (n := n) (LW TT [q] D H' (fun z => 0 ≤ z ∧ z < p)) (.start hD) (fun j H7 hj lw => ⟨rfl, yes ⟨_, rfl, _, rfl, rfl, .inr ⟨_, rfl, lw.push hD (not_pool hP6 hD) (.refl _) (by split <;> omega) (by omega)⟩⟩⟩) ?_⟩
            rintro H7 ⟨ns, d1, d2, d3, x7⟩
            exact cont _ _ ⟨_, way, one, D, ns, rfl, d1, ⟨d2, d3⟩, hO.mono x7 hlq, x6.trans x7, x7.poolAt hP6⟩
      · have hO := hO5.mono x6 hlq
        have x6 := x35.trans x6
        refine ⟨_, rfl, rfl, _, rfl, ite2 (fun _ => ?_) (fun _ => cont _ _ j0)⟩
        refine ⟨_, rfl, ((n : Nat) : Int), rfl, by omega, by omega, fun D' hD => lc_range (lo := 0) (n := n) (LW TT [q] D' H6 (fun z => 0 ≤ z ∧ z < p)) (.start hD) (fun j H7 hj lw => ⟨rfl, yes (lw.push hD (not_pool hP6 hD) (.refl _) (z := 0) (by omega) (by omega))⟩) ?_⟩
        rintro H7 ⟨ns, d1, d2, d3, x7⟩
        exact cont _ _ ⟨_, way, one, D', ns, rfl, d1, ⟨d2, d3⟩, hO.mono x7 hlq, x6.trans x7, x7.poolAt hP6⟩
  · rintro σ H3 ⟨⟨y5, y6, y7, y8, rfl⟩, ⟨vs, Rs, o1, o2, o3, o4⟩, x3, hP3⟩
    refine ⟨_, rfl, l, vs, rfl, .inl ⟨sql o1, fun t ht => Qq _ _ Rs (x3.trans (.new ht)) ((Ext.new (T := TT) (M := [q]) ht).poolAt hP3) ⟨t, vs, rfl, upd_same, L2.Paired.mapP o2 fun _ _ r => r.mono (.new (T := TT) (M := []) ht)⟩ o3 o4⟩⟩
end
end K17
end

section
set_option linter.all false
set_option maxRecDepth 100000
set_option maxHeartbeats 2000000
namespace K17
open PySem PySem.Spec PyProof.Rows L2 G17 M17
open GxR (TabG Tabbed)
/-- what the law's audiences are -/
structure OkA (p : Int) (n : Nat) (ls : List (List M17.Row × List M17.Row)) : Prop where
  pr : isP p
  n1 : 1 ≤ n
  n5 : n ≤ 5
  l : ls.length ≤ 5
  ok : ∀ l ∈ ls, OkM p n l.1 ∧ OkM p n l.2 ∧ l.1.length ≤ 50 ∧ l.2.length ≤ 50
theorem sIx_one {n d : Nat} : HT.sIx n d (some 1) = min 1 n := HT.sIx_nat n d 1
theorem cut_one (vs : List V) : cutV vs none (some 1) = vs.take 1 := by
  unfold cutV
  rw [HT.sIx_none, Nat.sub_zero, List.drop_zero, sIx_one, List.take_eq_take_iff]
  omega
theorem paired_take {α β : Type} {F : α → β → Prop} : ∀ {l : List α} {m : List β}, Paired F l m → ∀ k, Paired F (l.take k) (m.take k)
  | _, _, _, 0 => by rw [List.take_zero, List.take_zero]; exact .nil
  | _, _, .nil, k + 1 => .nil
  | _, _, .cons f t, k + 1 => .cons f (paired_take t k)
theorem pickV {xs : List V} {r : Int} (h0 : 0 ≤ r) (h1 : r < ((xs.length : Nat) : Int)) : ∃ v, v ∈ xs ∧ L2.atI xs r = some v := by
  obtain ⟨k, rfl⟩ := Int.eq_ofNat_of_zero_le h0
  have hk : k < xs.length := by omega
  exact ⟨xs[k], List.getElem_mem hk, atI_nat (List.getElem?_eq_getElem hk)⟩
theorem slice_mx {K : PySem.W.Frag} {TT : List Addr} {H : Hp} {v : V} {R : List M17.Row} {Q : VK} (hv : Mx H v R) (h : ∀ H' y, Ext TT [] H H' → Mx H' y (R.take 1) → Q y H') : rSlA K v none (some 1) H Q := by
  obtain ⟨a, vs, rfl, ha, pr⟩ := hv
  refine ⟨a, vs, rfl, sqt ha, fun z => ?_, fun _ p hp => ?_⟩
  · have z2 := z.2
    rw [sIx_one] at z2
    refine h _ _ (.refl H) ⟨a, vs, rfl, ha, ?_⟩
    rw [List.take_of_length_le (by rw [← pr.length]; omega)]
    exact pr
  · rw [cut_one]
    have x : Ext TT [] H (upd H p (.tup (vs.take 1))) := .new hp
    refine h _ _ x ⟨p, _, rfl, upd_same, ?_⟩
    exact paired_take (L2.Paired.mapP pr fun _ _ q => q.mono x) 1
section
variable {P : Program} {w : World} {K : PySem.W.Frag} {mg : Str → Option Value} {base : Heap} {TT : List Addr}
theorem sc_fit : FnScope ["_law_pool_here", "_law_audience_here", "_law_p", "_law_row", "_law_listener", "_law_rows", "_law_k", "_law_a", "_law_j"] ["_law_pool_here", "_law_audience_here"] (defScope (topS 55)) := ⟨rfl, rfl, rfl, by decide +kernel, rfl, by decide +kernel, by decide +kernel⟩
def sp_fit (TT : List Addr) : Sp := fun vs H Q _ => ∃ q av p n ls, vs = [.ref q, av] ∧ OkA p n ls ∧ ls ≠ [] ∧ Au H av p ((n : Nat) : Int) ls ∧ PoolAt H q ∧ ∀ H' y r, Ext TT [q] H H' → PoolAt H' q → Rw H' y r → OkR p n r → Q y H'
theorem c_fit (F : ∃ f fd, FunAt K mg "_law_fitting" "_law_fitting" (topS 55) f fd) (T : Bl K mg) (C_law_draw : Cal P w K mg base CX0 "_law_draw" 1 ["_law_pool_here", "_law_many"] (sp_draw TT)) : Cal P w K mg base CX0 "_law_fitting" 2 ["_law_pool_here", "_law_audience_here"] (sp_fit TT) := by
  have SC := sc_fit
  refine cal_of F sc_fit (fun _ _ _ _ _ _ us hl => match us, hl with | [_, _], _ => rfl) (fun vs H Q E h => by obtain ⟨q, av, p, n, ls, rfl, _⟩ := h; rfl) fun f cdv A' outer s H vs Q E hr h => ?_
  obtain ⟨q, av, p, n, ls, rfl, OA, hne, ⟨a, l, rfl, ha, ⟨la, lvs, rfl, hla, pl⟩⟩, hP, Qq⟩ := h
  refine ⟨_, (pss_cons (ps_set (i := 2) SC.nd rfl (.inr rfl) (pe_ix ix_tup (pv 1) pe_int (fun _ _ => rfl)))
    (pss_cons (ps_set (i := 3) SC.nd rfl (.inr rfl) (pe_lc (own := [("_law_j", 8)]) (by rfl) SC.nd (pi_range1 (by rfl) T.nrange (pa_cons (pe_ix ix_tup (pv 1) pe_int (fun _ _ => rfl)) pa_nil)) (blkOk_by (by kernel_rfl)) (by intro _ _ _ _ _; exact (pg_name (i := 8) SC.nd rfl (.inl rfl))) (by intro _ _ _ _ _; exact pts_nil) (by intro _ _ _ _ _; exact pe_int)))
    (pss_cons (ps_set (i := 4) SC.nd rfl (.inl rfl) (pe_ix ix_tup (pe_ix ix_tup (pv 1) pe_int (fun _ _ => rfl)) (pe_cal (E := E0) C_law_draw hr (by decide) (by rfl) pass0 (pa_cons (pv 0) (pa_cons (pe_callB call_len_seq (by rfl) T.nlen (by decide +kernel) (pa_cons (pe_ix ix_tup (pv 1) pe_int (fun _ _ => rfl)) pa_nil)) pa_nil))) (fun _ _ => rfl)))
    (pss_cons (ps_set (i := 5) SC.nd rfl (.inr rfl) (pe_op op_catA (pe_ix ix_tup (pv 4) pe_int (fun _ _ => rfl)) (pe_slice sl_tupA (pe_ix ix_tup (pv 4) pe_int (fun _ _ => rfl)) po_none (po_some pe_int))))
    (pss_cons (ps_for PassesOwn.never rfl (pi_range1 (by rfl) T.nrange (pa_cons (pe_callB call_len_seq (by rfl) T.nlen (by decide +kernel) (pa_cons (pv 5) pa_nil)) pa_nil)) (pg_name (i := 6) SC.nd rfl (.inr rfl)) (pss_cons (ps_set (i := 7) SC.nd rfl (.inr rfl) (pe_ix ix_list (pe_lst (pa_cons pe_int (pa_cons pe_int (pa_cons (pe_op op_sub (pv 2) pe_int) pa_nil)))) (pe_cal (E := E0) C_law_draw hr (by decide) (by rfl) pass0 (pa_cons (pv 0) (pa_cons pe_int pa_nil))) (fun _ _ => rfl)))
      (pss_cons (ps_if (pt_cmpR op_eq (pv 6) (pe_callB call_len_seq (by rfl) T.nlen (by decide +kernel) (pa_cons (pe_ix ix_tup (pv 4) pe_int (fun _ _ => rfl)) pa_nil)) (nomark _)) (pss_one (ps_set (i := 7) SC.nd rfl (.inr rfl) pe_int)) pss_nil)
      (pss_one (ps_set (i := 3) SC.nd rfl (.inr rfl) (pe_lc (own := [("_law_j", 8)]) (by rfl) SC.nd (pi_range1 (by rfl) T.nrange (pa_cons (pe_ix ix_tup (pv 1) pe_int (fun _ _ => rfl)) pa_nil)) (blkOk_by (by kernel_rfl)) (by intro _ _ _ _ _; exact (pg_name (i := 8) SC.nd rfl (.inl rfl))) (by intro _ _ _ _ _; exact pts_nil) (by intro _ _ _ _ _; exact (pe_op op_mod (pe_callTy call_int1 (by rfl) T.nint (by decide +kernel) (pa_cons (pe_op op_add (pe_ix (ix_listK (K := K) rfl) (pv 3) (pv 8) (fun _ _ => rfl)) (pe_op op_mul (pv 7) (pe_ix (ix_tupK (K := K) rfl) (pe_ix (ix_tupK (K := K) rfl) (pv 5) (pv 6) (fun _ _ => rfl)) (pv 8) (fun _ _ => rfl)))) pa_nil)) (pv 2)))))))))
    (pss_one (ps_ret (pe_callTy call_tuple_of (by rfl) T.ntuple (by decide +kernel) (pa_cons (pv 3) pa_nil))))))))), ?_⟩
  have p5 := OA.pr.five
  have p2 := OA.pr.two
  have n1 := OA.n1
  have n5 := OA.n5
  refine ⟨_, rfl, a, _, _, _, rfl, rfl, sqt ha, atI_nat (j := 0) rfl, ?_⟩
  refine ⟨_, rfl, a, _, _, _, rfl, rfl, sqt ha, atI_nat (j := 1) rfl, ((n : Nat) : Int), rfl, by omega, by omega, fun D hD => lc_range (lo := 0) (n := n) (LW TT [q] D H (fun z => 0 ≤ z ∧ z < p)) (.start hD) (fun j H7 hj lw => ⟨rfl, yes (lw.push hD (not_pool hP hD) (.refl _) (z := 0) (by omega) (by omega))⟩) ?_⟩
  rintro H1 ⟨ns, d1, d2, d3, x1⟩
  have ha1 := x1.tup _ _ ha
  have hla1 := x1.tup _ _ hla
  have lpos : 0 < ls.length := List.length_pos_iff.mpr hne
  have lL := pl.length
  refine ⟨_, rfl, a, _, _, _, rfl, rfl, sqt ha1, atI_nat (j := 2) rfl, _, rfl, _, rfl, a, _, _, _, rfl, rfl, sqt ha1, atI_nat (j := 2) rfl, la, _, rfl, .inr (sqt hla1), q, _, rfl, x1.poolAt hP, by omega, fun H2 r x2 hP2 r0 r1 => ?_⟩
  obtain ⟨k0, rfl⟩ := Int.eq_ofNat_of_zero_le r0
  have hk0 : k0 < lvs.length := by omega
  obtain ⟨li, hli, ⟨lb, kv, uv, elv, hlb, hkn, hwt⟩⟩ := paired_get pl (List.getElem?_eq_getElem hk0)
  obtain ⟨o1, o2, o3, o4⟩ := OA.ok li (List.mem_of_getElem? hli)
  have x12 := x1.trans x2
  refine ⟨la, lvs, _, _, rfl, rfl, sqt (x2.tup _ _ hla1), atI_nat (List.getElem?_eq_getElem hk0), ?_⟩
  rw [elv]
  have hlb2 := x12.tup _ _ hlb
  refine ⟨_, rfl, lb, _, _, _, rfl, rfl, sqt hlb2, atI_nat (j := 0) rfl, _, rfl, lb, _, _, _, rfl, rfl, sqt hlb2, atI_nat (j := 1) rfl, 1, rfl, slice_mx (TT := TT) (hwt.mono x12) fun H3 y3 x3 hy3 => ?_⟩
  have x23 := x2.trans x3.up
  refine cat_mx (TT := TT) ((hkn.mono x12).mono x3) hy3 (by rw [List.length_append, List.length_take]; omega) fun H4 y4 x4 hy4 => ?_
  have x34 : Ext TT [q] H2 H4 := x3.up.trans x4.up
  have x14 := x12.trans x34
  have okR : OkM p n (li.1 ++ li.2.take 1) := fun r hr => (List.mem_append.mp hr).elim (o1 r) fun z => o2 r (List.mem_of_mem_take z)
  obtain ⟨ra, rvs, rfl, hra, prR⟩ := hy4
  have lR := prR.length
  have lR2 : (li.1 ++ li.2.take 1).length ≤ 51 := by rw [List.length_append, List.length_take]; omega
  have d4 : H4 D = some (.lst (ns.map V.int)) := (x2.trans x34).lstq (fun z => not_pool hP hD (by rw [z]; simp)) d1
  refine ⟨_, rfl, ra, _, rfl, .inr (sqt hra), ((rvs.length : Nat) : Int), rfl, by omega, by omega, for_range (lo := 0) (n := rvs.length) (fun i σ H' => (∃ d ns y6 y7, σ = [some (.ref q), some (.ref a), some (.int p), some (.ref d), some (.ref lb), some (.ref ra), y6, y7, none] ∧ H' d = some (.lst (ns.map V.int)) ∧ d ≠ q ∧ OkR p n ns) ∧ Ext TT [q] H H' ∧ PoolAt H' q ∧ H' ra = some (.tup rvs) ∧ Paired (Rw H') rvs (li.1 ++ li.2.take 1) ∧ H' lb = some (.tup [kv, uv]) ∧ Ext TT [q] H4 H')
    ⟨⟨D, ns, _, _, rfl, d4, (fun z => not_pool hP hD (by rw [z]; simp)), d2, d3⟩, x14, x14.poolAt hP, hra, prR, x34.tup _ _ hlb2, .refl _⟩ ?_ ?_⟩
  · rintro i σ H5 hi ⟨⟨d, ns, y6, y7, rfl, hd, hdq, hns⟩, x5, hP5, hra5, pr5, hlb5, x45⟩
    rw [Int.zero_add]
    refine ⟨_, rfl, _, _, rfl, rfl, by show 3 ≤ sizeLine; decide, fun t ht => ?_⟩
    have htq : t ≠ q := fun z => not_pool hP5 ht (by rw [z]; simp)
    have xt : Ext TT [q] H5 (upd H5 t (.lst [.int 0, .int 1, .int (p - 1)])) := .new ht
    refine ⟨_, rfl, q, 3, rfl, xt.poolAt hP5, by decide, fun H6 r x6 hP6 r0 r1 => ?_⟩
    obtain ⟨z, hz, ez⟩ := pickV (xs := [.int 0, .int 1, .int (p - 1)]) r0 r1
    have hz' : ∃ c, z = .int c ∧ 0 ≤ c ∧ c < p := by
      simp only [List.mem_cons, List.not_mem_nil, or_false] at hz
      rcases hz with rfl | rfl | rfl
      · exact ⟨0, rfl, by omega, by omega⟩
      · exact ⟨1, rfl, by omega, by omega⟩
      · exact ⟨p - 1, rfl, by omega, by omega⟩
    obtain ⟨c, rfl, c0, c1⟩ := hz'
    refine ⟨t, _, r, _, rfl, rfl, sql (x6.lstq htq upd_same), ez, ?_⟩
    have x56 := xt.trans x6
    (dsimp only [gName])
    refine seq_by (fun σ H' => H' = H6 ∧ ∃ c, 0 ≤ c ∧ c < p ∧ σ = [some (.ref q), some (.ref a), some (.int p), some (.ref d), some (.ref lb), some (.ref ra), some (.int (i : Int)), some (.int c), none]) ?_ fun cont => ?_
    · rintro σ H' ⟨rfl, c, c0, c1, rfl⟩
      have ha6 := (x5.trans x56).tup _ _ ha
      have hd6 := x56.lstq hdq hd
      have hra6 := x56.tup _ _ hra5
      obtain ⟨rr, hrr⟩ : ∃ rr, (li.1 ++ li.2.take 1)[i]? = some rr := ⟨_, List.getElem?_eq_getElem (by omega)⟩
      obtain ⟨yv, hyv, ⟨rb, rfl, hrb⟩⟩ := paired_get' pr5 hrr
      have orr := okR rr (List.mem_of_getElem? hrr)
      refine ⟨_, rfl, a, _, _, _, rfl, rfl, sqt ha6, atI_nat (j := 1) rfl, ((n : Nat) : Int), rfl, by omega, by omega, fun D2 hD2 => lc_range (lo := 0) (n := n) (LW TT [q] D2 H' (fun z => 0 ≤ z ∧ z < p)) (.start hD2) (fun j H7 hj lw => ?_) ?_⟩
      · rw [Int.zero_add]
        have g1 := g_ok (by omega) hns j
        have g2 := g_ok (by omega) orr j
        refine ⟨rfl, yes ⟨_, rfl, _, rfl, d, _, _, _, rfl, rfl, sql (lw.ext.lstq hdq hd6), atI_nat (K17.atI (by rw [hns.1]; exact hj)), _, rfl, _, rfl, _, rfl, ra, _, _, _, rfl, rfl, sqt (lw.ext.tup _ _ hra6), atI_nat hyv, _, rfl, rb, _, _, _, rfl, rfl, sqt ((x56.trans lw.ext).tup _ _ hrb), atI_nat (K17.atI (by rw [orr.1]; exact hj)),
          _, _, rfl, rfl, .inl (show -(2 ^ 64) < c ∧ c < 2 ^ 64 by omega), _, _, rfl, rfl, .inl ⟨_, rfl, _, rfl, _, _, rfl, rfl, (show (0 : Int) < p by omega), lw.push hD2 (not_pool hP6 hD2) (.refl _) ⟨Int.emod_nonneg _ (by omega), Int.emod_lt_of_pos _ (by omega)⟩ (by omega)⟩⟩⟩
      · rintro H7 ⟨ns7, e1, e2, e3, x7⟩
        exact ⟨⟨D2, ns7, _, _, rfl, e1, (fun z => not_pool hP6 hD2 (by rw [z]; simp)), e2, e3⟩, (x5.trans x56).trans x7, x7.poolAt hP6, x7.tup _ _ hra6, L2.Paired.mapP pr5 fun _ _ q => (q.mono x56).mono x7, (x56.trans x7).tup _ _ hlb5, (x45.trans x56).trans x7⟩
    · obtain ⟨ka, kvs, rfl, hka, pk⟩ := (hkn.mono x12)
      have hka6 := ((x34.trans x45).trans x56).tup _ _ hka
      exact ⟨_, rfl, _, rfl, lb, _, _, _, rfl, rfl, sqt (x56.tup _ _ hlb5), atI_nat (j := 0) rfl, ka, kvs, rfl, .inr (sqt hka6), rfl, _, rfl, ite2 (fun _ => cont _ _ ⟨rfl, 1, by omega, by omega, rfl⟩) (fun _ => cont _ _ ⟨rfl, c, c0, c1, rfl⟩)⟩
  · rintro σ H5 ⟨⟨d, ns, y6, y7, rfl, hd, hdq, hns⟩, x5, hP5, _⟩
    refine ⟨_, rfl, d, _, rfl, .inl ⟨sql hd, fun t ht => Qq _ _ ns (x5.trans (.new ht)) ((Ext.new (T := TT) (M := [q]) ht).poolAt hP5) ⟨t, rfl, upd_same⟩ hns⟩⟩
end
end K17
end

section
set_option linter.all false
set_option maxRecDepth 100000
set_option maxHeartbeats 2000000
namespace K17
open PySem PySem.Spec PyProof.Rows L2 G17 M17
open GxR (TabG Tabbed)
section
variable {P : Program} {w : World} {K : PySem.W.Frag} {mg : Str → Option Value} {base : Heap} {TT : List Addr}
theorem sc_tell : FnScope ["_law_pool_here", "_law_audience_here", "_law_p", "_law_many", "_law_out", "_law_k", "_law_row", "_law_listener", "_law_a", "_law_other", "_law_j"] ["_law_pool_here", "_law_audience_here"] (defScope (topS 56)) := ⟨rfl, rfl, rfl, by decide +kernel, rfl, by decide +kernel, by decide +kernel⟩
def sp_tell (TT : List Addr) : Sp := fun vs H Q _ => ∃ q av p n ls, vs = [.ref q, av] ∧ OkA p n ls ∧ Au H av p ((n : Nat) : Int) ls ∧ PoolAt H q ∧ ∀ H' y R, Ext TT [q] H H' → PoolAt H' q → Mx H' y R → OkM p n R → R.length ≤ 5 → Q y H'
theorem c_tell (F : ∃ f fd, FunAt K mg "_law_telling" "_law_telling" (topS 56) f fd) (T : Bl K mg) (C_law_draw : Cal P w K mg base CX0 "_law_draw" 1 ["_law_pool_here", "_law_many"] (sp_draw TT)) (C_law_matrix : Cal P w K mg base CX0 "_law_matrix" 2 ["_law_pool_here", "_law_p", "_law_columns", "_law_many"] (sp_mat TT))
    (C_law_fitting : Cal P w K mg base CX0 "_law_fitting" 2 ["_law_pool_here", "_law_audience_here"] (sp_fit TT)) : Cal P w K mg base CX0 "_law_telling" 3 ["_law_pool_here", "_law_audience_here"] (sp_tell TT) := by
  have SC := sc_tell
  refine cal_of F sc_tell (fun _ _ _ _ _ _ us hl => match us, hl with | [_, _], _ => rfl) (fun vs H Q E h => by obtain ⟨q, av, p, n, ls, rfl, _⟩ := h; rfl) fun f cdv A' outer s H vs Q E hr h => ?_
  obtain ⟨q, av, p, n, ls, rfl, OA, hA, hP, Qq⟩ := h
  refine ⟨_, (pss_cons (ps_set (i := 2) SC.nd rfl (.inr rfl) (pe_ix ix_tup (pv 1) pe_int (fun _ _ => rfl)))
    (pss_cons (ps_set (i := 3) SC.nd rfl (.inl rfl) (pe_cal (E := E0) C_law_draw hr (by decide) (by rfl) pass0 (pa_cons (pv 0) (pa_cons (pe_op op_add (pe_ix ix_tup (pv 1) pe_int (fun _ _ => rfl)) pe_int) pa_nil))))
    (pss_cons (ps_if (PW.pt (pw_or (pt_cmpR op_eq (pe_cal (E := E0) C_law_draw hr (by decide) (by rfl) pass0 (pa_cons (pv 0) (pa_cons pe_int pa_nil))) pe_int (nomark _)) (pw_or1 (pt_cmpR op_eq (pe_callB call_len_seq (by rfl) T.nlen (by decide +kernel) (pa_cons (pe_ix ix_tup (pv 1) pe_int (fun _ _ => rfl)) pa_nil)) pe_int (nomark _))))) (pss_one (ps_ret (pe_cal (E := E0) C_law_matrix hr (by decide) (by rfl) pass0 (pa_cons (pv 0) (pa_cons (pv 2) (pa_cons (pe_ix ix_tup (pv 1) pe_int (fun _ _ => rfl)) (pa_cons (pv 3) pa_nil))))))) pss_nil)
    (pss_cons (ps_set (i := 4) SC.nd rfl (.inl rfl) (pe_lst pa_nil))
    (pss_cons (ps_for PassesOwn.never rfl (pi_range1 (by rfl) T.nrange (pa_cons (pv 3) pa_nil)) (pg_name (i := 5) SC.nd rfl (.inl rfl)) (pss_cons (ps_set (i := 6) SC.nd rfl (.inr rfl) (pe_callTy call_tuple_of (by rfl) T.ntuple (by decide +kernel) (pa_cons (pe_lc (own := [("_law_j", 10)]) (by rfl) SC.nd (pi_range1 (by rfl) T.nrange (pa_cons (pe_ix ix_tup (pv 1) pe_int (fun _ _ => rfl)) pa_nil)) (blkOk_by (by kernel_rfl)) (by intro _ _ _ _ _; exact (pg_name (i := 10) SC.nd rfl (.inl rfl))) (by intro _ _ _ _ _; exact pts_nil) (by intro _ _ _ _ _; exact pe_int)) pa_nil)))
      (pss_cons (ps_for PassesOwn.never rfl (pi_tup (pe_ix ix_tup (pv 1) pe_int (fun _ _ => rfl))) (pg_name (i := 7) SC.nd rfl (.inl rfl)) (pss_cons (ps_set (i := 8) SC.nd rfl (.inr rfl) (pe_ix ix_list (pe_lst (pa_cons pe_int (pa_cons pe_int (pa_cons pe_int (pa_cons (pe_op op_sub (pv 2) pe_int) pa_nil))))) (pe_cal (E := E0) C_law_draw hr (by decide) (by rfl) pass0 (pa_cons (pv 0) (pa_cons pe_int pa_nil))) (fun _ _ => rfl)))
        (pss_one (ps_if (pt_cmpR op_gt (pe_callB call_len_seq (by rfl) T.nlen (by decide +kernel) (pa_cons (pe_ix ix_tup (pv 7) pe_int (fun _ _ => rfl)) pa_nil)) pe_int (nomark _)) (pss_cons (ps_set (i := 9) SC.nd rfl (.inr rfl) (pe_ix ix_tup (pe_ix ix_tup (pv 7) pe_int (fun _ _ => rfl)) pe_int (fun _ _ => rfl)))
          (pss_one (ps_set (i := 6) SC.nd rfl (.inr rfl) (pe_callTy call_tuple_of (by rfl) T.ntuple (by decide +kernel) (pa_cons (pe_lc (own := [("_law_j", 10)]) (by rfl) SC.nd (pi_range1 (by rfl) T.nrange (pa_cons (pe_ix ix_tup (pv 1) pe_int (fun _ _ => rfl)) pa_nil)) (blkOk_by (by kernel_rfl)) (by intro _ _ _ _ _; exact (pg_name (i := 10) SC.nd rfl (.inl rfl))) (by intro _ _ _ _ _; exact pts_nil) (by intro _ _ _ _ _; exact (pe_op op_mod (pe_callTy call_int1 (by rfl) T.nint (by decide +kernel) (pa_cons (pe_op op_add (pe_ix (ix_tupK (K := K) rfl) (pv 6) (pv 10) (fun _ _ => rfl)) (pe_op op_mul (pv 8) (pe_ix (ix_tupK (K := K) rfl) (pv 9) (pv 10) (fun _ _ => rfl)))) pa_nil)) (pv 2)))) pa_nil))))) pss_nil))))
      (pss_cons (ps_if (pt_cmpR op_eq (pe_cal (E := E0) C_law_draw hr (by decide) (by rfl) pass0 (pa_cons (pv 0) (pa_cons pe_int pa_nil))) pe_int (nomark _)) (pss_one (ps_set (i := 6) SC.nd rfl (.inr rfl) (pe_cal (E := E0) C_law_fitting hr (by decide) (by rfl) pass0 (pa_cons (pv 0) (pa_cons (pv 1) pa_nil))))) pss_nil)
      (pss_one (ps_expr (pe_bm PySem.F.plainAttrs_list PySem.F.slot_list_append PySem.F.type_list_append mt_append (pv 4) (pa_cons (pv 6) pa_nil))))))))
    (pss_one (ps_ret (pe_callTy call_tuple_of (by rfl) T.ntuple (by decide +kernel) (pa_cons (pv 4) pa_nil))))))))), ?_⟩
  have p5 := OA.pr.five
  have p2 := OA.pr.two
  have n1 := OA.n1
  have n5 := OA.n5
  have hA0 := hA
  obtain ⟨a, l, rfl, ha, ⟨la, lvs, rfl, hla, pl⟩⟩ := hA
  have lL := pl.length
  refine ⟨_, rfl, a, _, _, _, rfl, rfl, sqt ha, atI_nat (j := 0) rfl, ?_⟩
  refine ⟨_, rfl, _, rfl, a, _, _, _, rfl, rfl, sqt ha, atI_nat (j := 1) rfl, _, _, rfl, rfl, q, _, rfl, hP, by omega, fun H1 m x1 hP1 m0 m1 => ?_⟩
  obtain ⟨m, rfl⟩ := Int.eq_ofNat_of_zero_le m0
  have ha1 := x1.tup _ _ ha
  have hla1 := x1.tup _ _ hla
  refine ⟨_, rfl, q, 4, rfl, hP1, by decide, fun H2 r x2 hP2 r0 r1 => ?_⟩
  have x12 := x1.trans x2
  have mret : tRet (tCall (sp_mat TT) [] E0 (tCons (tVar 0) (tCons (tVar 2) (tCons (tOp (rIxT K) (tVar 1) (tC (.int 1))) (tCons (tVar 3) tNil))))) { nx := fun _ H' => Q .non H', rt := Q } [some (.ref q), some (.ref a), some (.int p), some (.int ((m : Nat) : Int)), none, none, none, none, none, none, none] H2 :=
    ⟨_, rfl, _, rfl, _, rfl, a, _, _, _, rfl, rfl, sqt (x12.tup _ _ ha), atI_nat (j := 1) rfl, _, rfl, q, p, n, m, rfl, OA.pr, n1, n5, by omega, hP2, fun H3 y R x3 hP3 hy ok hl => Qq _ _ R (x12.trans x3) hP3 hy ok (by omega)⟩
  refine ⟨rfl, _, rfl, ite2 (fun _ => iteT mret) (fun _ => ?_)⟩
  refine ⟨_, rfl, a, _, _, _, rfl, rfl, sqt (x12.tup _ _ ha), atI_nat (j := 2) rfl, la, _, rfl, .inr (sqt (x12.tup _ _ hla)), rfl, _, rfl, ite2 (fun _ => mret) (fun e => ?_)⟩
  have hne : ls ≠ [] := fun z => e (by rw [z] at lL; rw [show lvs.length = 0 from lL]; rfl)
  refine ⟨Nat.zero_le _, fun o ho => ?_⟩
  have hoq : o ≠ q := fun z => not_pool hP2 ho (by rw [z]; simp)
  have x0 : Ext TT [q] H2 (upd H2 o (.lst [])) := .new ho
  have noH : H o = none := x12.dom _ ho
  refine ⟨_, rfl, ((m : Nat) : Int), rfl, by omega, by omega, for_range (lo := 0) (n := m) (fun i σ H' => (∃ y5 y6 y7 y8 y9, σ = [some (.ref q), some (.ref a), some (.int p), some (.int ((m : Nat) : Int)), some (.ref o), y5, y6, y7, y8, y9, none]) ∧ OutI o p n i H' ∧ Ext TT [q] H H' ∧ PoolAt H' q)
    ⟨⟨_, _, _, _, _, rfl⟩, ⟨[], [], upd_same, .nil, fun r hr => by simp at hr, rfl⟩, x12.trans x0, x0.poolAt hP2⟩ ?_ ?_⟩
  · rintro i σ H3 hi ⟨⟨y5, y6, y7, y8, y9, rfl⟩, hO, x3, hP3⟩
    rw [Int.zero_add]
    refine ⟨_, rfl, a, _, _, _, rfl, rfl, sqt (x3.tup _ _ ha), atI_nat (j := 1) rfl, ((n : Nat) : Int), rfl, by omega, by omega, fun D hD => lc_range (lo := 0) (n := n) (LW TT [q] D H3 (fun z => 0 ≤ z ∧ z < p)) (.start hD) (fun j H7 hj lw => ⟨rfl, yes (lw.push hD (not_pool hP3 hD) (.refl _) (z := 0) (by omega) (by omega))⟩) ?_⟩
    rintro H4 ⟨ns, d1, d2, d3, x4⟩
    refine ⟨D, _, rfl, .inl ⟨sql d1, fun t ht => ?_⟩⟩
    have x5 := x4.trans (Ext.new (T := TT) (M := [q]) (o := .tup (ns.map V.int)) ht)
    have x35 := x3.trans x5
    refine ⟨_, rfl, a, _, _, _, rfl, rfl, sqt (x35.tup _ _ ha), atI_nat (j := 2) rfl, la, rfl, ⟨_, sqt (x35.tup _ _ hla)⟩, for_tup (fun k σ H' => (∃ yv r y7 y8 y9, σ = [some (.ref q), some (.ref a), some (.int p), some (.int ((m : Nat) : Int)), some (.ref o), some (.int (i : Int)), some yv, y7, y8, y9, none] ∧ Rw H' yv r ∧ OkR p n r) ∧ OutI o p n i H' ∧ Ext TT [q] H H' ∧ PoolAt H' q)
      ⟨⟨_, ns, _, _, _, rfl, ⟨t, rfl, upd_same⟩, d2, d3⟩, hO.mono x5 hoq, x35, x5.poolAt hP3⟩ (fun k σ H' _ h => sqt (h.2.2.1.tup _ _ hla)) ?_ ?_⟩
    · rintro k lv σ H5 hk ⟨⟨yv, r, y7, y8, y9, rfl, hyv, okr⟩, hO5, x5, hP5⟩
      obtain ⟨li, hli, ⟨lb, kv, uv, rfl, hlb, hkn, ⟨ua, uvs, rfl, hua, pu⟩⟩⟩ := paired_get pl hk
      obtain ⟨o1, o2, o3, o4⟩ := OA.ok li (List.mem_of_getElem? hli)
      refine ⟨_, rfl, _, _, rfl, rfl, by show 4 ≤ sizeLine; decide, fun t ht => ?_⟩
      have htq : t ≠ q := fun z => not_pool hP5 ht (by rw [z]; simp)
      have xt : Ext TT [q] H5 (upd H5 t (.lst [.int 0, .int 0, .int 1, .int (p - 1)])) := .new ht
      refine ⟨_, rfl, q, 4, rfl, xt.poolAt hP5, by decide, fun H6 r4 x6 hP6 r0 r1 => ?_⟩
      obtain ⟨z, hz, ez⟩ := pickV (xs := [.int 0, .int 0, .int 1, .int (p - 1)]) r0 r1
      have hz' : ∃ c, z = .int c ∧ 0 ≤ c ∧ c < p := by
        simp only [List.mem_cons, List.not_mem_nil, or_false] at hz
        rcases hz with rfl | rfl | rfl | rfl
        · exact ⟨0, rfl, by omega, by omega⟩
        · exact ⟨0, rfl, by omega, by omega⟩
        · exact ⟨1, rfl, by omega, by omega⟩
        · exact ⟨p - 1, rfl, by omega, by omega⟩
      obtain ⟨c, rfl, c0, c1⟩ := hz'
      refine ⟨t, _, r4, _, rfl, rfl, sql (x6.lstq htq upd_same), ez, ?_⟩
      have x56 := xt.trans x6
      have x06 := x5.trans x56
      have hlb6 := x06.tup _ _ hlb
      have hua6 := x06.tup _ _ hua
      have hO6 := hO5.mono x56 hoq
      refine ⟨_, rfl, lb, _, _, _, rfl, rfl, sqt hlb6, atI_nat (j := 1) rfl, ua, uvs, rfl, .inr (sqt hua6), _, _, rfl, rfl, _, rfl, ite2 (fun e => ?_) (fun _ => ⟨⟨yv, r, _, _, _, rfl, hyv.mono x56, okr⟩, hO6, x06, hP6⟩)⟩
      have upos : 0 < uvs.length := by have := of_decide_eq_true e; omega
      obtain ⟨rr, hrr, ⟨rb, erb, hrb⟩⟩ := paired_get pu (List.getElem?_eq_getElem upos)
      have orr := o2 rr (List.mem_of_getElem? hrr)
      refine ⟨_, rfl, lb, _, _, _, rfl, rfl, sqt hlb6, atI_nat (j := 1) rfl, ua, uvs, _, _, rfl, rfl, sqt hua6, atI_nat (j := 0) (List.getElem?_eq_getElem upos), ?_⟩
      rw [erb]
      obtain ⟨yb, rfl, hyb⟩ := hyv.mono x56
      refine ⟨_, rfl, a, _, _, _, rfl, rfl, sqt (x06.tup _ _ ha), atI_nat (j := 1) rfl, ((n : Nat) : Int), rfl, by omega, by omega, fun D2 hD2 => lc_range (lo := 0) (n := n) (LW TT [q] D2 H6 (fun z => 0 ≤ z ∧ z < p)) (.start hD2) (fun j H7 hj lw => ?_) ?_⟩
      · rw [Int.zero_add]
        have g1 := g_ok (by omega) okr j
        have g2 := g_ok (by omega) orr j
        refine ⟨rfl, yes ⟨_, rfl, _, rfl, yb, _, _, _, rfl, rfl, sqt (lw.ext.tup _ _ hyb), atI_nat (K17.atI (by rw [okr.1]; exact hj)), _, rfl, _, rfl, _, rfl, rb, _, _, _, rfl, rfl, sqt ((x06.trans lw.ext).tup _ _ hrb), atI_nat (K17.atI (by rw [orr.1]; exact hj)),
          _, _, rfl, rfl, .inl (show -(2 ^ 64) < c ∧ c < 2 ^ 64 by omega), _, _, rfl, rfl, .inl ⟨_, rfl, _, rfl, _, _, rfl, rfl, (show (0 : Int) < p by omega), lw.push hD2 (not_pool hP6 hD2) (.refl _) ⟨Int.emod_nonneg _ (by omega), Int.emod_lt_of_pos _ (by omega)⟩ (by omega)⟩⟩⟩
      · rintro H7 ⟨ns7, e1, e2, e3, x7⟩
        refine ⟨D2, _, rfl, .inl ⟨sql e1, fun t2 ht2 => ?_⟩⟩
        have x8 := x7.trans (Ext.new (T := TT) (M := [q]) (o := .tup (ns7.map V.int)) ht2)
        exact ⟨⟨_, ns7, _, _, _, rfl, ⟨t2, rfl, upd_same⟩, e2, e3⟩, hO6.mono x8 hoq, x06.trans x8, x8.poolAt hP6⟩
    · rintro σ H5 ⟨⟨yv, r, y7, y8, y9, rfl, hyv, okr⟩, hO5, x5, hP5⟩
      (dsimp only)
      refine seq_by (fun σ H' => (∃ yv r y7 y8 y9, σ = [some (.ref q), some (.ref a), some (.int p), some (.int ((m : Nat) : Int)), some (.ref o), some (.int (i : Int)), some yv, y7, y8, y9, none] ∧ Rw H' yv r ∧ OkR p n r) ∧ OutI o p n i H' ∧ Ext TT [q] H H' ∧ PoolAt H' q) ?_ fun cont => ?_
      · rintro σ H6 ⟨⟨yv, r, y7, y8, y9, rfl, hyv, okr⟩, hO6, x6, hP6⟩
        refine ⟨_, rfl, hO6.ty, _, rfl, OutI.push hO6 hyv okr (by omega) fun ob hO7 => ?_⟩
        exact ⟨⟨_, _, _, _, _, rfl⟩, hO7, x6.mut noH, (x6.mut (p := o) (o := ob) noH).poolAt hP⟩
      · refine ⟨_, rfl, q, 2, rfl, hP5, by decide, fun H6 r6 x6 hP6 r0 r1 => ?_⟩
        refine ⟨rfl, _, rfl, ite2 (fun _ => ?_) (fun _ => cont _ _ ⟨⟨yv, r, _, _, _, rfl, hyv.mono x6, okr⟩, hO5.mono x6 hoq, x5.trans x6, hP6⟩)⟩
        refine ⟨_, rfl, _, rfl, q, .ref a, p, n, ls, rfl, OA, hne, hA0.mono (x5.trans x6), hP6, fun H7 y7' r7 x7 hP7 hy7 ok7 => ?_⟩
        exact cont _ _ ⟨⟨y7', r7, _, _, _, rfl, hy7, ok7⟩, (hO5.mono x6 hoq).mono x7 hoq, (x5.trans x6).trans x7, hP7⟩
  · rintro σ H3 ⟨⟨y5, y6, y7, y8, y9, rfl⟩, ⟨vs, Rs, o1, o2, o3, o4⟩, x3, hP3⟩
    refine ⟨_, rfl, o, vs, rfl, .inl ⟨sql o1, fun t ht => Qq _ _ Rs (x3.trans (.new ht)) ((Ext.new (T := TT) (M := [q]) ht).poolAt hP3) ⟨t, vs, rfl, upd_same, L2.Paired.mapP o2 fun _ _ r => r.mono (.new (T := TT) (M := []) ht)⟩ o3 (by omega)⟩⟩
end
end K17
end

section
set_option linter.all false
set_option maxRecDepth 100000
set_option maxHeartbeats 2000000
/-! dicts of tuple keys: pop of one that is there; sorted of one -/
namespace K17
open PySem PySem.Spec PyProof.Rows L2 G17 M17
section
variable {prog : Program} {w : World} {A : Around} {E : Value → Shared → Prop} {s : Shared}
theorem kdl_raw {d : Addr} {es : Array DictEntry} {ep : Nat} (lo : (d == sysModules) = false) :
    PySem.W.KdlSrc prog w "dict" d d es.size (fun i v => ∃ hi : i < es.size, v = es[i].key) (fun h => h.DictRaw d es ep) where
  type := fun _ hm => hm.typeIs
  there := fun _ hm => let ⟨_, ho, _⟩ := hm; ⟨Heap.lt_size ho, Heap.lt_size ho⟩
  keep := fun _ _ hm hk => hm.at fun o e => hk d (.inl rfl) o e
  notList := by decide
  notTuple := by decide
  hint := fun _ _ _ _ hm hq => PySem.W.kdl_hint_dict hm.typeIs hq
  iter := fun _ _ hh hm => ⟨_, _, (fun _ _ hq => wpAny_pyIter_dict_raw lo hm hq), Walks.rawKeys hh _ d (let ⟨_, ho, _⟩ := hm; Nat.ne_of_lt (Heap.lt_size ho)) es ep,
    ⟨⟨_, Heap.get?_push_size _ rfl, rfl, rfl⟩, hm.at fun o e => Heap.get?_push_of_some _ e⟩⟩
/-- sorted(d), its keys pairs of ints: the keys in some order, in a new list -/
theorem sorted_dictT {d : Addr} {es : Array DictEntry} {ep : Nat} {Q : Value → Shared → Prop} (hh : A.handled = none) (lo : (d == sysModules) = false) (hm : s.heap.DictRaw d es ep) (hz : es.size ≤ sizeLine)
    (hp : ∀ v, v ∈ es.toList.map (·.key) → ∃ x y, Srt.IsPair s.heap v x y)
    (h : ∀ (h1 h' : Heap) (tk : Nat) (out : List Value), out.length = es.size → (∀ v ∈ out, v ∈ es.toList.map (·.key)) → (∀ b o, s.heap.get? b = some o → h1.get? b = some o) → (∀ b o, h1.get? b = some o → h'.get? b = some o) → (∃ n, h'.get? h1.objs.size = some (seqObj "list" out.toArray n)) → Q (.ref h1.objs.size) { s with heap := h', toks := tk }) :
    wpAny (model prog w) A (call (.builtin "sorted") [.ref d]) Q E s := by
  refine Calls.call_function_entry kind_sorted plain_sorted entry_sorted (args_sorted1 _) ?_
  unfold Builtin.«sorted»
  refine wpAny_bind (m := checkCount "sorted" 1 1 _) (wpAny_pure (wpAny_bind (PySem.W.kdu_collect (A := A.in1) (kdl_raw (es := es) (ep := ep) lo) hh hm hz fun h' tk acc hk hacc => ?_)))
  have hal : acc.toList.length = es.size := by rw [Array.length_toList]; exact hacc.1
  have hmem : ∀ v ∈ acc.toList, v ∈ es.toList.map (·.key) := fun v hv => by
    obtain ⟨j, hj, e⟩ := List.getElem_of_mem hv
    obtain ⟨hi, e2⟩ := hacc.2 j v (by rw [← Array.getElem?_toList, List.getElem?_eq_getElem hj, e])
    rw [e2]
    exact List.mem_map.mpr ⟨es[j], by simp, rfl⟩
  refine wpAny_bind (wpAny_newList ?_ (by rw [hal]; exact hz))
  have hoL : (h'.push (seqObj "list" acc.toList.toArray 0)).get? h'.objs.size = some (seqObj "list" acc.toList.toArray 0) := Heap.get?_push_size _ rfl
  show wpAny _ _ _ _ _ { s with heap := h'.push (seqObj "list" acc.toList.toArray 0), toks := tk }
  refine wpAny_bind (wpAny_holding (wpAny_call_entry slot_list_sort ⟨_, hoL, rfl⟩ entry_list_sort (Srt.list_sort_any (s := { s with heap := h'.push (seqObj "list" acc.toList.toArray 0), toks := tk }) hoL (by rw [hal]; exact hz) (fun h2 => ?_) fun out hperm => ⟨_, rfl, ?_⟩) (args_list_sort _)))
  · refine Srt.pairs_sortable (s := { s with heap := h'.push (seqObj "list" acc.toList.toArray 0), toks := tk }) (by omega) (fun v hv => ?_) fun o e c => ?_
    · obtain ⟨x, y, p⟩ := hp v (hmem v hv)
      exact ⟨x, y, p.keeps fun b o e _ => Heap.get?_push_of_some _ (hk b o e)⟩
    · have e' : some o = some (seqObj "list" acc.toList.toArray 0) := e.symm.trans hoL
      cases e'
      exact absurd (Value.type.inj c) (by decide)
  · obtain ⟨n, hn⟩ := sortedHeap_at (vs := acc.toList) (out := out.toArray) hoL
    refine wpAny_pure ⟨_, rfl, h h' _ tk out (hperm.length_eq.trans hal) (fun v hv => hmem v (hperm.mem_iff.mp hv)) hk (fun b o e => ?_) ⟨n, hn⟩⟩
    have hb : b < h'.objs.size := Heap.lt_size e
    show (sortedHeap _ _ _ _).get? b = some o
    rw [sortedHeap_old (Nat.ne_of_lt hb) (by rw [size_push']; exact Nat.lt_succ_of_lt hb)]
    exact Heap.get?_push_of_some _ e
/-- d.pop(k), k there -/
theorem meetsPop1 {w : World} {knd : HeapKind prog w (List L2.Key)} {d b : Addr} {k : List L2.Key} (hd : (d == sysModules) = false) :
    MeetsIn prog w (Builtin.«dict.pop» ⟨[.ref d, .ref b], []⟩) (fun A R s => ∃ (xs : List (List L2.Key × Addr × Value)) (p : Addr × Value), knd.room A.in1 ∧ knd.is s.heap k b ∧ s.heap.DictOfH knd d xs ∧ xs.length ≤ sizeLine ∧
      atKey xs k = some p ∧ ∀ h' tk, h'.DictOfH knd d (DT.dropH xs k) → Heap.SameBut d s.heap h' → R (.ok (.ret p.2)) { s with heap := h', toks := tk }) :=
  .of_wp fun A R s ⟨xs, p, hu, hkey, hm, hsz, hat, hsome⟩ => by
    obtain ⟨o, es, ep, ho, hc, hdat, he, his, hn⟩ := id hm
    have hes : es.size = xs.length := size_of_entries he
    have hpart : (keyPart (Value.ref b)).isSome = false := rfl
    have hne : es.isEmpty = false := by
      cases hem : es.isEmpty with
      | false => rfl
      | true =>
        have h0 : xs = [] := by
          have z : es.size = 0 := by simpa using hem
          exact List.length_eq_zero_iff.mp (by omega)
        rw [h0] at hat
        cases hat
    unfold Builtin.«dict.pop»
    refine wpAny_bind ?_
    unfold Builtin.Dict.keyAndDefault
    refine wpAny_bind (wpAny_notOrdered_dict hm.typeIs ?_)
    show wpAny _ _ (pure (d, Value.ref b, none)) _ _ s
    refine wpAny_pure ?_
    simp only [hpart, Bool.false_eq_true, if_false]
    refine wpAny_bind (wpAny_dictEntries ho hdat (wpAny_bind (wpAny_pure ?_)))
    rw [hne]
    simp only [Bool.false_eq_true, if_false]
    refine wpAny_bind (DT.takeH hu hkey hm hsz (fun hno => ?_) fun p' e hp hev h' hm' hs' => ?_)
    · rw [hat] at hno
      cases hno
    · rw [hat] at hp
      cases hp
      simp only [Option.isNone_some, Bool.false_eq_true, if_false]
      exact wpAny_bind (wpAny_letGo (wpAny_pure ⟨e.val, rfl, by rw [hev]; exact hsome h' _ hm' hs'⟩))
end
section
variable {X : Cx}
def rPopT1 : V → List V → Hp → VK → Prop := fun x xs H Q => ∃ (a : Addr) (kvs : List (List L2.Key × V)) (k : List L2.Key) (b : Addr) (v : V), x = .ref a ∧ xs = [.ref b] ∧ H a = some (.dT kvs) ∧ H b = some (.tup (k.map kV)) ∧ valV kvs k = some v ∧ Q v (upd H a (.dT (dropK kvs k)))
theorem mt_popT1 (hu : X.A.units + 1 < cLine) : MtR X "dict.pop" rPopT1 := by
  intro pins s σ H x xs v us Q I rx rxs h
  obtain ⟨a, kvs, k, b, v0, rfl, rfl, ha, hb, ev, q⟩ := h
  cases rx
  obtain ⟨u1, rfl, r1⟩ := vals1 rxs
  cases r1
  obtain ⟨z, hd, xs', rel, dd⟩ := dt_of I.hok ha
  have hz : xs'.length ≤ sizeLine := by rw [← Paired.length rel]; exact z
  obtain ⟨p2, hp2, rv⟩ := RelO.some_of (v := v0) (o := (atKey xs' k).map (·.2)) (by rw [← ev]; exact rel.val k)
  obtain ⟨p, hp, hpe⟩ := Option.map_eq_some_iff.mp hp2
  refine call_meetsIn PySem.F.slot_dict_pop dd.typeIs PySem.F.entry_dict_pop (PySem.F.args_dict_pop_2 _ _) (meetsPop1 (knd := tupleKind (mixKind X.prog X.w)) (k := k) hd)
    ⟨xs', p, tupleKind_room_in1 hu, key_of I.hok hb, dd, hz, hp, fun h' tk dd' hs => ?_⟩
  obtain ⟨o, es, ep, hq, h2, h3, h4, _, h5⟩ := dd'
  have I2 : Inv X pins σ (upd H a (.dT (dropK kvs k))) { s with heap := h', toks := tk } :=
    d_write I (by rw [ha]; exact True.intro) hs ⟨o, hq⟩ ⟨Nat.le_trans (dropK_le kvs k) z, hd, _, (L2.DX.KT_drop k rel).keeps (fun c ys ec => (by rw [upd_ne (ne_of ec ha (fun z => nomatch z))]; exact ec)), o, es, ep, hq, h2, h3, h4, h5⟩
  show EP X pins σ Q p.2 _
  rw [hpe]
  exact ⟨v0, _, I2, rv, q⟩
def rSortDT : List V → Hp → VK → Prop := fun vs H Q => ∃ (a : Addr) (kvs : List (List L2.Key × V)), vs = [.ref a] ∧ H a = some (.dT kvs) ∧ (∀ p ∈ kvs, ∃ i j, p.1 = [Sum.inl i, Sum.inl j]) ∧
  ∀ (ys : List V) (p : Addr), ys.length = kvs.length → (∀ y ∈ ys, ∃ b q, q ∈ kvs ∧ y = .ref b ∧ H b = some (.tup (q.1.map kV))) → H p = none → Q (.ref p) (upd H p (.lst ys))
theorem cr_sortedDT (hc : X.calm = true) : CallR X (.builtin "sorted") rSortDT := by
  intro pins s σ H vs us Q I r h
  obtain ⟨a, kvs, rfl, ha, hpair, q⟩ := h
  obtain ⟨u, rfl, ru⟩ := vals1 r
  obtain rfl : u = Value.ref a := ru
  obtain ⟨z, hd, xs, rel, dd⟩ := dt_of I.hok ha
  obtain ⟨o, es, ep, ho, hx, hdat, he, his, hn⟩ := dd
  have hes : es.size = xs.length := size_of_entries he
  have lk : kvs.length = xs.length := Paired.length rel
  have hkey : ∀ v, v ∈ es.toList.map (·.key) → ∃ b q, q ∈ kvs ∧ v = Value.ref b ∧ H b = some (.tup (q.1.map kV)) := fun v hv => by
    obtain ⟨e, hm, rfl⟩ := List.mem_map.mp hv
    rw [he] at hm
    obtain ⟨y, hy, rfl⟩ := List.mem_map.mp hm
    obtain ⟨i, hi, ei⟩ := List.getElem_of_mem hy
    obtain ⟨p, hp, h1, h2, _⟩ := K17.paired_get' rel (b := y) (i := i) (by rw [List.getElem?_eq_getElem hi, ei])
    exact ⟨y.2.1, p, List.mem_of_getElem? hp, rfl, h2⟩
  refine sorted_dictT (es := es) (ep := ep) (I.ok.hd hc) hd ⟨o, ho, hx, hdat⟩ (by omega) (fun v hv => ?_) fun h1 h' tk out hl hmem hk1 hk2 hL => ?_
  · obtain ⟨b, p, hp, rfl, hb⟩ := hkey v hv
    obtain ⟨i, j, e⟩ := hpair p hp
    rw [e] at hb
    obtain ⟨_, its2, r2, o2, ho2, hc2, n2, hd2⟩ := I.hok _ _ hb
    obtain ⟨u1, u2, rfl, ri, rj⟩ := vals2 r2
    obtain ⟨t1, rfl⟩ := ri
    obtain ⟨t2, rfl⟩ := rj
    exact ⟨i, j, b, o2, t1, t2, n2, rfl, ho2, hc2, hd2⟩
  · have hrefs : ∀ u ∈ out, ∃ a, u = Value.ref a := fun u hu => let ⟨b, _, _, e, _⟩ := hkey u (hmem u hu); ⟨b, e⟩
    have I1 : Inv X pins σ H { s with heap := h1, toks := tk } := I.kept hk1
    obtain ⟨n, hL⟩ := hL
    refine ⟨.ref h1.objs.size, upd H h1.objs.size (.lst (out.map backV)), I1.laid (t' := tk) hk2 (Nat.le_refl _) ⟨by rw [List.length_map]; omega, out, n, vals_back hrefs, hL⟩, rfl, q _ _ (by rw [List.length_map]; omega) (fun y hy => ?_) (I1.hok.fresh (Nat.le_refl _))⟩
    obtain ⟨u, hu, rfl⟩ := List.mem_map.mp hy
    obtain ⟨b, p, hp, rfl, hb⟩ := hkey u (hmem u hu)
    exact ⟨b, p, hp, rfl, hb⟩
end
end K17
end

section
set_option linter.all false
set_option maxRecDepth 100000
set_option maxHeartbeats 2000000
namespace K17
open PySem PySem.Spec PyProof.Rows L2 G17 M17
open GxR (TabG Tabbed)
/-- the dict at d: at most b pairs below n -/
def DictI (d : Addr) (n : Int) (b : Nat) (H : Hp) : Prop := ∃ kvs, H d = some (.dT kvs) ∧ (∀ p ∈ kvs, ∃ i j : Int, p.1 = [Sum.inl i, Sum.inl j] ∧ (0 ≤ i ∧ i < n) ∧ (0 ≤ j ∧ j < n)) ∧ kvs.length ≤ b
theorem DictI.mono {T : List Addr} {q d : Addr} {n : Int} {b : Nat} {H H' : Hp} (h : DictI d n b H) (x : Ext T [q] H H') (hd : d ≠ q) : DictI d n b H' := by
  obtain ⟨kvs, h1, h2⟩ := h
  exact ⟨kvs, x.keep d _ (fun z => hd (List.mem_singleton.mp z)) h1 (fun ps z => by cases z), h2⟩
theorem DictI.weak {d : Addr} {n : Int} {b c : Nat} {H : Hp} (h : DictI d n b H) (hb : b ≤ c) : DictI d n c H := let ⟨kvs, h1, h2, h3⟩ := h; ⟨kvs, h1, h2, Nat.le_trans h3 hb⟩
theorem putK_in {κ : Type} [DecidableEq κ] {kvs : List (κ × V)} {k : κ} {v : V} : (∀ p ∈ putK kvs k v, (∃ p' ∈ kvs, p.1 = p'.1) ∨ p.1 = k) ∧ (putK kvs k v).length ≤ kvs.length + 1 := by
  unfold putK
  split
  · refine ⟨fun p hp => ?_, by rw [List.length_map]; omega⟩
    obtain ⟨p', h1, h2⟩ := List.mem_map.mp hp
    split at h2
    · exact .inl ⟨p', h1, by rw [← h2]⟩
    · exact .inl ⟨p', h1, by rw [← h2]⟩
  · refine ⟨fun p hp => ?_, by rw [List.length_append]; exact Nat.le_refl _⟩
    rcases List.mem_append.mp hp with h | h
    · exact .inl ⟨p, h, rfl⟩
    · rw [List.mem_singleton.mp h]; exact .inr rfl
/-- d[i, j] = True: the tuple at t just laid -/
theorem DictI.put {d t : Addr} {n i j : Int} {b : Nat} {H : Hp} {v : V} (h : DictI d n b H) (hi : 0 ≤ i ∧ i < n) (hj : 0 ≤ j ∧ j < n) (ht : H t = some (.tup [.int i, .int j])) (hb : b ≤ 1000) : ∃ o, DPut H d (.ref t) v (upd H d o) ∧ DictI d n (b + 1) (upd H d o) := by
  obtain ⟨kvs, h1, h2, h3⟩ := h
  obtain ⟨p1, p2⟩ := putK_in (kvs := kvs) (k := ([Sum.inl i, Sum.inl j] : List L2.Key)) (v := v)
  refine ⟨_, DPut.t (k := [Sum.inl i, Sum.inl j]) h1 ht (lz1000 (by omega)), _, upd_same, fun p hp => ?_, by omega⟩
  rcases p1 p hp with ⟨p', hp', e⟩ | e
  · obtain ⟨i', j', e', r⟩ := h2 p' hp'
    exact ⟨i', j', e.trans e', r⟩
  · exact ⟨i, j, e, hi, hj⟩
theorem dict_ne {d t : Addr} {n : Int} {b : Nat} {H : Hp} (h : DictI d n b H) (ht : H t = none) : d ≠ t := fun z => by
  obtain ⟨kvs, h1, _⟩ := h
  rw [z, ht] at h1
  cases h1
section
variable {P : Program} {w : World} {K : PySem.W.Frag} {mg : Str → Option Value} {base : Heap} {TT : List Addr}
theorem sc_arcs : FnScope ["_law_pool_here", "_law_most", "_law_odds", "_law_size", "_law_there", "_law_turn", "_law_step", "_law_k", "_law_one", "_law_two", "_law_many", "_law_i", "_law_j"] ["_law_pool_here", "_law_most", "_law_odds"] (defScope (topS 52)) := ⟨rfl, rfl, rfl, by decide +kernel, rfl, by decide +kernel, by decide +kernel⟩
/-- a net: its size, its arcs -/
def NetV (H : Hp) (v : V) (n : Nat) : Prop := ∃ a b arcs, v = .ref a ∧ H a = some (.tup [.int ((n : Nat) : Int), .ref b]) ∧ H b = some (.tup arcs) ∧ arcs.length ≤ 50 ∧ ∀ y ∈ arcs, ∃ c i j, y = .ref c ∧ H c = some (.tup [.int i, .int j]) ∧ (0 ≤ i ∧ i < n) ∧ (0 ≤ j ∧ j < (n : Int))
def sp_arcs (TT : List Addr) : Sp := fun vs H Q _ => ∃ q, vs = [.ref q, .int 5, .int 4] ∧ PoolAt H q ∧ ∀ H' y n, Ext TT [q] H H' → PoolAt H' q → 1 ≤ n → n ≤ 5 → NetV H' y n → Q y H'
theorem c_arcs (F : ∃ f fd, FunAt K mg "_law_arcs" "_law_arcs" (topS 52) f fd) (T : Bl K mg) (C_law_draw : Cal P w K mg base CX0 "_law_draw" 1 ["_law_pool_here", "_law_many"] (sp_draw TT)) : Cal P w K mg base CX0 "_law_arcs" 2 ["_law_pool_here", "_law_most", "_law_odds"] (sp_arcs TT) := by
  have SC := sc_arcs
  refine cal_of F sc_arcs (fun _ _ _ _ _ _ us hl => match us, hl with | [_, _, _], _ => rfl) (fun vs H Q E h => by obtain ⟨q, rfl, _⟩ := h; rfl) fun f cdv A' outer s H vs Q E hr h => ?_
  obtain ⟨q, rfl, hP, Qq⟩ := h
  refine ⟨_, (pss_cons (ps_set (i := 3) SC.nd rfl (.inl rfl) (pe_op op_add pe_int (pe_cal (E := E0) C_law_draw hr (by decide) (by rfl) pass0 (pa_cons (pv 0) (pa_cons (pv 1) pa_nil)))))
    (pss_cons (ps_set (i := 4) SC.nd rfl (.inl rfl) pe_dnewT)
    (pss_cons (ps_if (pt_cmpR op_lt (pe_cal (E := E0) C_law_draw hr (by decide) (by rfl) pass0 (pa_cons (pv 0) (pa_cons pe_int pa_nil))) (pv 2) (nomark _)) (pss_cons (ps_set (i := 3) SC.nd rfl (.inl rfl) pe_int)
      (pss_cons (ps_set (i := 5) SC.nd rfl (.inl rfl) (pe_cal (E := E0) C_law_draw hr (by decide) (by rfl) pass0 (pa_cons (pv 0) (pa_cons pe_int pa_nil))))
      (pss_cons (ps_set (i := 6) SC.nd rfl (.inl rfl) (pe_op op_add pe_int (pe_cal (E := E0) C_law_draw hr (by decide) (by rfl) pass0 (pa_cons (pv 0) (pa_cons pe_int pa_nil)))))
      (pss_cons (ps_for PassesOwn.never rfl (pi_range1 (by rfl) T.nrange (pa_cons pe_int pa_nil)) (pg_name (i := 7) SC.nd rfl (.inl rfl)) (pss_cons (ps_set (i := 8) SC.nd rfl (.inl rfl) (pe_op op_mod (pe_callTy call_int1 (by rfl) T.nint (by decide +kernel) (pa_cons (pe_op op_add (pv 5) (pe_op op_mul (pv 7) (pv 6))) pa_nil)) pe_int))
        (pss_cons (ps_set (i := 9) SC.nd rfl (.inl rfl) (pe_op op_mod (pe_callTy call_int1 (by rfl) T.nint (by decide +kernel) (pa_cons (pe_op op_add (pe_op op_add (pv 5) (pe_op op_mul (pv 7) (pv 6))) (pv 6)) pa_nil)) pe_int))
        (pss_cons (ps_dput (hu_of hr) (pv 4) (pe_tup (pa_cons (pv 8) (pa_cons (pv 9) pa_nil))) pe_bl rfl)
        (pss_one (ps_dput (hu_of hr) (pv 4) (pe_tup (pa_cons (pv 9) (pa_cons (pv 8) pa_nil))) pe_bl rfl))))))
      (pss_one (ps_for PassesOwn.never rfl (pi_range1 (by rfl) T.nrange (pa_cons (pe_cal (E := E0) C_law_draw hr (by decide) (by rfl) pass0 (pa_cons (pv 0) (pa_cons pe_int pa_nil))) pa_nil)) (pg_name (i := 7) SC.nd rfl (.inl rfl)) (pss_cons (ps_set (i := 8) SC.nd rfl (.inl rfl) (pe_cal (E := E0) C_law_draw hr (by decide) (by rfl) pass0 (pa_cons (pv 0) (pa_cons pe_int pa_nil))))
        (pss_cons (ps_set (i := 9) SC.nd rfl (.inl rfl) (pe_op op_mod (pe_callTy call_int1 (by rfl) T.nint (by decide +kernel) (pa_cons (pe_op op_add (pe_op op_add (pv 8) pe_int) (pe_cal (E := E0) C_law_draw hr (by decide) (by rfl) pass0 (pa_cons (pv 0) (pa_cons pe_int pa_nil)))) pa_nil)) pe_int))
        (pss_one (ps_if (pt_cmp (pc_din (hu_of hr) (pe_tup (pa_cons (pv 8) (pa_cons (pv 9) pa_nil))) (pv 4))) (pss_one (ps_expr (pe_bm PySem.F.plainAttrs_dict PySem.F.slot_dict_pop PySem.F.type_dict_pop (mt_popT1 (hu_of hr)) (pv 4) (pa_cons (pe_tup (pa_cons (pv 8) (pa_cons (pv 9) pa_nil))) pa_nil)))) (pss_one (ps_dput (hu_of hr) (pv 4) (pe_tup (pa_cons (pv 8) (pa_cons (pv 9) pa_nil))) pe_bl rfl)))))))))))) (pss_cons (ps_set (i := 10) SC.nd rfl (.inl rfl) (pe_ix ix_list (pe_lst (pa_cons pe_int (pa_cons pe_int (pa_cons pe_int (pa_cons pe_int (pa_cons pe_int pa_nil)))))) (pe_cal (E := E0) C_law_draw hr (by decide) (by rfl) pass0 (pa_cons (pv 0) (pa_cons pe_int pa_nil))) (fun _ _ => rfl)))
      (pss_one (ps_for PassesOwn.never rfl (pi_range1 (by rfl) T.nrange (pa_cons (pv 3) pa_nil)) (pg_name (i := 11) SC.nd rfl (.inl rfl)) (pss_one (ps_for PassesOwn.never rfl (pi_range1 (by rfl) T.nrange (pa_cons (pv 3) pa_nil)) (pg_name (i := 12) SC.nd rfl (.inl rfl)) (pss_one (ps_if (PW.pt (pw_and (pt_cmpR op_ne (pv 11) (pv 12) (nomark _)) (pw_and1 (pt_cmpR op_lt (pe_cal (E := E0) C_law_draw hr (by decide) (by rfl) pass0 (pa_cons (pv 0) (pa_cons pe_int pa_nil))) (pv 10) (nomark _))))) (pss_one (ps_dput (hu_of hr) (pv 4) (pe_tup (pa_cons (pv 11) (pa_cons (pv 12) pa_nil))) pe_bl rfl)) pss_nil))))))))
    (pss_one (ps_ret (pe_tup (pa_cons (pv 3) (pa_cons (pe_callTy call_tuple_of (by rfl) T.ntuple (by decide +kernel) (pa_cons (pe_callB (cr_sortedDT rfl) (by rfl) T.nsorted (by decide +kernel) (pa_cons (pv 4) pa_nil)) pa_nil)) pa_nil)))))))), ?_⟩
  refine ⟨_, rfl, _, rfl, q, 5, rfl, hP, by decide, fun H1 r x1 hP1 r0 r1 => ⟨_, _, rfl, rfl, fun d hd => ?_⟩⟩
  obtain ⟨m, rfl⟩ := Int.eq_ofNat_of_zero_le r0
  have hdq : d ≠ q := fun z => not_pool hP1 hd (by rw [z]; simp)
  have ndH : H d = none := x1.dom _ hd
  have x2 : Ext TT [q] H (upd H1 d (.dT [])) := x1.trans (.new hd)
  have D0 : ∀ n, DictI d n 0 (upd H1 d (.dT [])) := fun n => ⟨[], upd_same, fun p hp => by simp at hp, Nat.le_refl _⟩
  (dsimp only [gName])
  refine seq_by (fun σ' H' => ∃ n : Nat, ∃ y5 y6 y7 y8 y9 y10 y11 y12, σ' = [some (.ref q), some (.int 5), some (.int 4), some (.int ((n : Nat) : Int)), some (.ref d), y5, y6, y7, y8, y9, y10, y11, y12] ∧ 1 ≤ n ∧ n ≤ 5 ∧ DictI d n 50 H' ∧ Ext TT [q] H H') (fun σ' H' jj => ?_) fun cont => ?_
  · obtain ⟨n, y5, y6, y7, y8, y9, y10, y11, y12, rfl, n1, n5, ⟨kvs, hk, hkp, hkl⟩, x3⟩ := jj
    refine ⟨_, rfl, _, rfl, d, kvs, rfl, hk, (fun p hp => let ⟨i, j, e, _⟩ := hkp p hp; ⟨i, j, e⟩), fun ys l hl hy hnl => ⟨l, ys, rfl, .inl ⟨sql upd_same, fun t ht => ⟨by show 2 ≤ sizeLine; decide, fun a ha => ?_⟩⟩⟩⟩
    have z1 : Ext TT [q] H' (upd H' l (.lst ys)) := .new hnl
    have z2 : Ext TT [q] H' (upd (upd H' l (.lst ys)) t (.tup ys)) := z1.trans (.new ht)
    have z3 := z2.trans (Ext.new (T := TT) (M := [q]) (o := .tup [.int ((n : Nat) : Int), .ref t]) ha)
    refine Qq _ _ n (x3.trans z3) ((x3.trans z3).poolAt hP) n1 n5 ⟨a, t, ys, rfl, upd_same, ?_, by omega, fun y hy' => ?_⟩
    · exact (Ext.new (T := TT) (M := [q]) ha).tup _ _ upd_same
    · obtain ⟨b, p, hp, rfl, hb⟩ := hy y hy'
      obtain ⟨i, j, e, hi, hj⟩ := hkp p hp
      rw [e] at hb
      exact ⟨b, i, j, rfl, z3.tup _ _ hb, hi, hj⟩
  · refine ⟨_, rfl, q, 6, rfl, x2.poolAt hP, by decide, fun H2 r2 x3 hP2 _ _ => ?_⟩
    have x23 := x2.trans x3
    refine ⟨_, rfl, _, _, rfl, rfl, _, rfl, ite2 (fun _ => ?_) (fun _ => ?_)⟩
    · refine ⟨_, rfl, q, 5, rfl, hP2, by decide, fun H3 tn x4 hP3 t0 t1 => ?_⟩
      refine ⟨_, rfl, q, 2, rfl, hP3, by decide, fun H4 st x5 hP4 s0 s1 => ⟨_, _, rfl, rfl, ?_⟩⟩
      have x25 := (x23.trans x4).trans x5
      refine ⟨5, rfl, by decide, by decide, for_range (lo := 0) (n := 5) (fun i σ' H' => (∃ y7 y8 y9, σ' = [some (.ref q), some (.int 5), some (.int 4), some (.int 5), some (.ref d), some (.int tn), some (.int (1 + st)), y7, y8, y9, none, none, none]) ∧ DictI d 5 (2 * i) H' ∧ Ext TT [q] H H')
        ⟨⟨_, _, _, rfl⟩, ((((D0 5).mono x3 hdq).mono x4 hdq).mono x5 hdq), x25⟩ ?_ ?_⟩
      · rintro i σ' H5 hi ⟨⟨y7, y8, y9, rfl⟩, hD, x6⟩
        refine ⟨_, rfl, _, rfl, _, rfl, _, _, rfl, rfl, .inl (show -(2 ^ 64) < 0 + (i : Int) ∧ 0 + (i : Int) < 2 ^ 64 by omega), _, _, rfl, rfl, .inl ⟨_, rfl, _, _, rfl, rfl, pz, ?_⟩⟩
        refine ⟨_, rfl, _, rfl, _, rfl, _, _, rfl, rfl, .inl (show -(2 ^ 64) < 0 + (i : Int) ∧ 0 + (i : Int) < 2 ^ 64 by omega), _, _, rfl, rfl, _, rfl, _, _, rfl, rfl, .inl ⟨_, rfl, _, _, rfl, rfl, pz, ?_⟩⟩
        have ho0 := Int.emod_nonneg (tn + (0 + (i : Int)) * (1 + st)) (b := 5) (by decide)
        have ho1 := Int.emod_lt_of_pos (tn + (0 + (i : Int)) * (1 + st)) (b := 5) (by decide)
        have hw0 := Int.emod_nonneg (tn + (0 + (i : Int)) * (1 + st) + (1 + st)) (b := 5) (by decide)
        have hw1 := Int.emod_lt_of_pos (tn + (0 + (i : Int)) * (1 + st) + (1 + st)) (b := 5) (by decide)
        refine ⟨_, rfl, _, rfl, _, rfl, by show 2 ≤ sizeLine; decide, fun t ht => ?_⟩
        have xt := Ext.new (T := TT) (M := [q]) (o := .tup [.int ((tn + (0 + (i : Int)) * (1 + st)) % 5), .int ((tn + (0 + (i : Int)) * (1 + st) + (1 + st)) % 5)]) ht
        obtain ⟨o, p1, p2⟩ := (hD.mono xt hdq).put (v := .bl true) ⟨ho0, ho1⟩ ⟨hw0, hw1⟩ upd_same (by omega)
        refine ⟨d, _, rfl, p1, ?_⟩
        have x7 := (x6.trans xt).mut (o := o) ndH
        refine ⟨_, rfl, _, rfl, _, rfl, by show 2 ≤ sizeLine; decide, fun t2 ht2 => ?_⟩
        have xt2 := Ext.new (T := TT) (M := [q]) (o := .tup [.int ((tn + (0 + (i : Int)) * (1 + st) + (1 + st)) % 5), .int ((tn + (0 + (i : Int)) * (1 + st)) % 5)]) ht2
        obtain ⟨o2, p3, p4⟩ := (p2.mono xt2 hdq).put (v := .bl true) ⟨hw0, hw1⟩ ⟨ho0, ho1⟩ upd_same (by omega)
        exact ⟨d, _, rfl, p3, ⟨_, _, _, rfl⟩, p4, (x7.trans xt2).mut ndH⟩
      · rintro σ' H5 ⟨⟨y7, y8, y9, rfl⟩, hD, x6⟩
        have hP5 := x6.poolAt hP
        refine ⟨_, rfl, q, 4, rfl, hP5, by decide, fun H6 c x7 hP6 c0 c1 => ⟨c, rfl, by omega, by omega, for_range (lo := 0) (n := c.toNat) (fun i σ' H' => (∃ y7 y8 y9, σ' = [some (.ref q), some (.int 5), some (.int 4), some (.int 5), some (.ref d), some (.int tn), some (.int (1 + st)), y7, y8, y9, none, none, none]) ∧ DictI d 5 (10 + i) H' ∧ Ext TT [q] H H')
          ⟨⟨_, _, _, rfl⟩, hD.mono x7 hdq, x6.trans x7⟩ ?_ ?_⟩⟩
        · rintro i σ' H7 hi ⟨⟨y7, y8, y9, rfl⟩, hD, x8⟩
          refine ⟨_, rfl, q, 5, rfl, x8.poolAt hP, by decide, fun H8 one x9 hP8 o0 o1 => ?_⟩
          refine ⟨_, rfl, _, _, rfl, rfl, _, rfl, q, 4, rfl, hP8, by decide, fun H9 w2 x10 hP9 w0 w1 => ⟨_, _, rfl, rfl, .inl ⟨_, rfl, _, _, rfl, rfl, pz, ?_⟩⟩⟩
          have hD9 := (hD.mono x9 hdq).mono x10 hdq
          have x89 := (x8.trans x9).trans x10
          have hw0 := Int.emod_nonneg (one + 1 + w2) (b := 5) (by decide)
          have hw1 := Int.emod_lt_of_pos (one + 1 + w2) (b := 5) (by decide)
          refine ⟨_, rfl, _, rfl, by show 2 ≤ sizeLine; decide, fun t ht => ?_⟩
          have xt := Ext.new (T := TT) (M := [q]) (o := .tup [.int one, .int ((one + 1 + w2) % 5)]) ht
          have hDt := hD9.mono xt hdq
          obtain ⟨kvs, hk, hkp, hkl⟩ := id hDt
          have ci : c.toNat ≤ 4 := by omega
          refine ⟨_, rfl, d, _, rfl, DGet.t (k := [Sum.inl one, Sum.inl ((one + 1 + w2) % 5)]) hk upd_same, _, rfl, ite2 (fun e => ?_) (fun e => ?_)⟩
          · obtain ⟨v, ev⟩ := Option.isSome_iff_exists.mp e
            refine ⟨_, rfl, .inr (.inr (.inl ⟨rfl, .inr ⟨kvs, hk⟩⟩)), _, rfl, _, rfl, by show 2 ≤ sizeLine; decide, fun t2 ht2 => ?_⟩
            have xt2 := Ext.new (T := TT) (M := [q]) (o := .tup [.int one, .int ((one + 1 + w2) % 5)]) ht2
            have hk2 := (show DictI d 5 (10 + i) _ from ⟨kvs, hk, hkp, hkl⟩).mono xt2 hdq
            have hk3 := xt2.keep d _ (fun z => hdq (List.mem_singleton.mp z)) hk (fun ps z => by cases z)
            refine ⟨d, kvs, [Sum.inl one, Sum.inl ((one + 1 + w2) % 5)], t2, v, rfl, rfl, hk3, upd_same, ev, ?_⟩
            exact ⟨⟨_, _, _, rfl⟩, ⟨_, upd_same, fun p hp => hkp p (List.mem_filter.mp hp).1, Nat.le_trans (dropK_le _ _) (by omega)⟩, ((x89.trans xt).trans xt2).mut ndH⟩
          · refine ⟨_, rfl, _, rfl, _, rfl, by show 2 ≤ sizeLine; decide, fun t2 ht2 => ?_⟩
            have xt2 := Ext.new (T := TT) (M := [q]) (o := .tup [.int one, .int ((one + 1 + w2) % 5)]) ht2
            obtain ⟨o2, p3, p4⟩ := (hDt.mono xt2 hdq).put (v := .bl true) ⟨o0, o1⟩ ⟨hw0, hw1⟩ upd_same (by omega)
            exact ⟨d, _, rfl, p3, ⟨_, _, _, rfl⟩, p4, ((x89.trans xt).trans xt2).mut ndH⟩
        · rintro σ' H7 ⟨⟨y7, y8, y9, rfl⟩, hD, x8⟩
          exact cont _ _ ⟨5, _, _, _, _, _, _, _, _, rfl, by decide, by decide, hD.weak (by omega), x8⟩
    · obtain ⟨n, hn, n1, n5⟩ : ∃ n : Nat, (1 : Int) + (m : Int) = ((n : Nat) : Int) ∧ 1 ≤ n ∧ n ≤ 5 := ⟨1 + m, by omega, by omega, by omega⟩
      rw [hn]
      refine ⟨by show 5 ≤ sizeLine; decide, fun t ht => ?_⟩
      have xt := Ext.new (T := TT) (M := [q]) (o := .lst [.int 1, .int 2, .int 3, .int 5, .int 6]) ht
      have htq : t ≠ q := fun z => not_pool hP2 ht (by rw [z]; simp)
      refine ⟨_, rfl, q, 5, rfl, xt.poolAt hP2, by decide, fun H3 r x4 hP3 r0 r1 => ?_⟩
      obtain ⟨z, hz, ez⟩ := pickV (xs := [.int 1, .int 2, .int 3, .int 5, .int 6]) r0 r1
      have hz' : ∃ c, z = .int c := by
        simp only [List.mem_cons, List.not_mem_nil, or_false] at hz
        rcases hz with rfl | rfl | rfl | rfl | rfl <;> exact ⟨_, rfl⟩
      obtain ⟨c, rfl⟩ := hz'
      refine ⟨t, _, r, _, rfl, rfl, sql (x4.lstq htq upd_same), ez, ?_⟩
      have x24 := (x23.trans xt).trans x4
      have hD4 := (((D0 (n : Int)).mono x3 hdq).mono xt hdq).mono x4 hdq
      refine ⟨_, rfl, ((n : Nat) : Int), rfl, by omega, by omega, for_range (lo := 0) (n := n) (fun i σ' H' => (∃ y11 y12, σ' = [some (.ref q), some (.int 5), some (.int 4), some (.int ((n : Nat) : Int)), some (.ref d), none, none, none, none, none, some (.int c), y11, y12]) ∧ DictI d n (5 * i) H' ∧ Ext TT [q] H H')
        ⟨⟨_, _, rfl⟩, hD4, x24⟩ ?_ ?_⟩
      · rintro i σ' H5 hi ⟨⟨y11, y12, rfl⟩, hD, x6⟩
        rw [Int.zero_add]
        refine ⟨_, rfl, ((n : Nat) : Int), rfl, by omega, by omega, for_range (lo := 0) (n := n) (fun j σ' H' => (∃ y12, σ' = [some (.ref q), some (.int 5), some (.int 4), some (.int ((n : Nat) : Int)), some (.ref d), none, none, none, none, none, some (.int c), some (.int (i : Int)), y12]) ∧ DictI d n (5 * i + j) H' ∧ Ext TT [q] H H')
          ⟨⟨_, rfl⟩, hD, x6⟩ ?_ ?_⟩
        · rintro j σ' H6 hj ⟨⟨y12, rfl⟩, hD, x7⟩
          rw [Int.zero_add]
          refine ⟨_, rfl, _, rfl, rfl, _, rfl, ite2 (fun _ => ?_) (fun _ => ⟨⟨_, rfl⟩, hD.weak (by omega), x7⟩)⟩
          refine ⟨_, rfl, q, 6, rfl, x7.poolAt hP, by decide, fun H7 r7 x8 hP7 _ _ => ?_⟩
          have hD7 := hD.mono x8 hdq
          refine ⟨_, rfl, _, _, rfl, rfl, _, rfl, ite2 (fun _ => ?_) (fun _ => ⟨⟨_, rfl⟩, hD7.weak (by omega), x7.trans x8⟩)⟩
          refine ⟨_, rfl, _, rfl, _, rfl, by show 2 ≤ sizeLine; decide, fun t2 ht2 => ?_⟩
          have xt2 := Ext.new (T := TT) (M := [q]) (o := .tup [.int (i : Int), .int (j : Int)]) ht2
          obtain ⟨o2, p3, p4⟩ := (hD7.mono xt2 hdq).put (i := (i : Int)) (j := (j : Int)) (v := .bl true) ⟨by omega, by omega⟩ ⟨by omega, by omega⟩ upd_same (by omega)
          exact ⟨d, _, rfl, p3, ⟨_, rfl⟩, p4, ((x7.trans x8).trans xt2).mut ndH⟩
        · rintro σ' H6 ⟨⟨y12, rfl⟩, hD, x7⟩
          exact ⟨⟨_, _, rfl⟩, hD.weak (by omega), x7⟩
      · rintro σ' H5 ⟨⟨y11, y12, rfl⟩, hD, x6⟩
        exact cont _ _ ⟨n, _, _, _, _, _, _, _, _, rfl, n1, n5, hD.weak (by omega), x6⟩
end
end K17
end

section
set_option linter.all false
set_option maxRecDepth 100000
set_option maxHeartbeats 2000000
namespace K17
open PySem PySem.Spec PyProof.Rows L2 G17 M17
open GxR (TabG Tabbed)
/-- a comprehension of rows -/
theorem OutI.step {T : List Addr} {q D : Addr} {H1 H H4 : Hp} {p : Int} {n i : Nat} {y : V} {r : M17.Row} (p0 : OutI D p n i H ∧ Ext T [q] H1 H) (hD : H1 D = none) (hDq : D ≠ q) (x : Ext T [q] H H4) (hy : Rw H4 y r) (hr : OkR p n r) (hi : i < 1000) :
    ∃ acc, H4 D = some (.lst acc) ∧ acc.length < sizeLine ∧ OutI D p n (i + 1) (upd H4 D (.lst (acc ++ [y]))) ∧ Ext T [q] H1 (upd H4 D (.lst (acc ++ [y]))) := by
  obtain ⟨vs, Rs, h1, h2, h3, h4⟩ := p0.1.mono x hDq
  have u : ∀ {v r}, Rw H4 v r → Rw (upd H4 D (.lst (vs ++ [y]))) v r := fun ⟨b, e, hb⟩ => ⟨b, e, tup_upd h1 (fun xs z => by cases z) hb⟩
  refine ⟨vs, h1, by rw [h2.length, h4]; exact lz1000 (by omega), ⟨vs ++ [y], Rs ++ [r], upd_same, paired_append (L2.Paired.mapP h2 fun _ _ q => u q) (.cons (u hy) .nil), fun r' hr' => ?_, by rw [List.length_append, h4]; rfl⟩, (p0.2.trans x).mut hD⟩
  rcases List.mem_append.mp hr' with e | e
  · exact h3 _ e
  · rw [List.mem_singleton.mp e]; exact hr
theorem OutI.start {T : List Addr} {q D : Addr} {H1 : Hp} {p : Int} {n : Nat} (hD : H1 D = none) : OutI D p n 0 (upd H1 D (.lst [])) ∧ Ext T [q] H1 (upd H1 D (.lst [])) := ⟨⟨[], [], upd_same, .nil, fun r hr => by simp at hr, rfl⟩, .new hD⟩
/-- the list at l: i listeners -/
def OutA (l : Addr) (p : Int) (n i : Nat) (H : Hp) : Prop := ∃ vs Ls, H l = some (.lst vs) ∧ Paired (K17.Ls H) vs Ls ∧ (∀ l ∈ Ls, OkM p n l.1 ∧ OkM p n l.2 ∧ l.1.length ≤ 50 ∧ l.2.length ≤ 50) ∧ Ls.length = i
theorem OutA.mono {T : List Addr} {q l : Addr} {p : Int} {n i : Nat} {H H' : Hp} (h : OutA l p n i H) (x : Ext T [q] H H') (hl : l ≠ q) : OutA l p n i H' := by
  obtain ⟨vs, Rs, h1, h2, h3⟩ := h
  exact ⟨vs, Rs, x.lstq hl h1, L2.Paired.mapP h2 fun _ _ r => r.mono x, h3⟩
theorem OutA.ty {K : PySem.W.Frag} {l : Addr} {p : Int} {n i : Nat} {H : Hp} (h : OutA l p n i H) : tyV K "list" (.ref l) H := let ⟨_, _, h1, _⟩ := h; .inl ⟨rfl, _, sql h1⟩
theorem Mx.up {H : Hp} {l : Addr} {o o' : HO} {v : V} {m : List M17.Row} (h : H l = some o) (n : ∀ xs, o ≠ .tup xs) (hm : Mx H v m) : Mx (upd H l o') v m := by
  obtain ⟨a, vs, e, ha, pr⟩ := hm
  exact ⟨a, vs, e, tup_upd h n ha, L2.Paired.mapP pr fun _ _ ⟨b, e, hb⟩ => ⟨b, e, tup_upd h n hb⟩⟩
theorem OutA.push {l : Addr} {p : Int} {n i : Nat} {H : Hp} {y : V} {r : List M17.Row × List M17.Row} {Q : VK} {σ : L2.St} (h : OutA l p n i H) (hy : K17.Ls H y r) (hr : OkM p n r.1 ∧ OkM p n r.2 ∧ r.1.length ≤ 50 ∧ r.2.length ≤ 50) (hi : i < 1000) (q : ∀ o, OutA l p n (i + 1) (upd H l o) → Q .non (upd H l o)) :
    tNil σ H fun xs H2 => rAppend (.ref l) (y :: xs) H2 Q := by
  obtain ⟨vs, Rs, h1, h2, h3, h4⟩ := h
  have nt : ∀ xs, HO.lst vs ≠ .tup xs := fun xs z => by cases z
  have u : ∀ {v r}, K17.Ls H v r → K17.Ls (upd H l (.lst (vs ++ [y]))) v r := fun ⟨a, k, w, e, ha, hk, hw⟩ => ⟨a, k, w, e, tup_upd h1 nt ha, hk.up h1 nt, hw.up h1 nt⟩
  refine ⟨l, vs, y, rfl, rfl, h1, by rw [h2.length, h4]; exact lz1000 (by omega), q _ ⟨vs ++ [y], Rs ++ [r], upd_same, paired_append (L2.Paired.mapP h2 fun _ _ q => u q) (.cons (u hy) .nil), fun r' hr' => ?_, by rw [List.length_append, h4]; rfl⟩⟩
  rcases List.mem_append.mp hr' with e | e
  · exact h3 _ e
  · rw [List.mem_singleton.mp e]; exact hr
theorem NetV.mono {T M : List Addr} {H H' : Hp} {v : V} {n : Nat} (h : NetV H v n) (x : Ext T M H H') : NetV H' v n := by
  obtain ⟨a, b, arcs, e, ha, hb, hl, harc⟩ := h
  exact ⟨a, b, arcs, e, x.tup _ _ ha, x.tup _ _ hb, hl, fun y hy => let ⟨c, i, j, e, hc, r⟩ := harc y hy; ⟨c, i, j, e, x.tup _ _ hc, r⟩⟩
theorem NetV.upd {H : Hp} {l : Addr} {o o' : HO} {v : V} {n : Nat} (h : NetV H v n) (ho : H l = some o) (nt : ∀ xs, o ≠ .tup xs) : NetV (L2.upd H l o') v n := by
  obtain ⟨a, b, arcs, e, ha, hb, hl, harc⟩ := h
  exact ⟨a, b, arcs, e, tup_upd ho nt ha, tup_upd ho nt hb, hl, fun y hy => let ⟨c, i, j, e, hc, r⟩ := harc y hy; ⟨c, i, j, e, tup_upd ho nt hc, r⟩⟩
section
variable {P : Program} {w : World} {K : PySem.W.Frag} {mg : Str → Option Value} {base : Heap} {TT : List Addr}
theorem sc_knows : FnScope ["_law_net", "_law_i", "_law_arc"] ["_law_net", "_law_i"] (defScope (topS 53)) := ⟨rfl, rfl, rfl, by decide +kernel, rfl, by decide +kernel, by decide +kernel⟩
def sp_knows (TT : List Addr) : Sp := fun vs H Q _ => ∃ v i n, vs = [v, .int i] ∧ NetV H v n ∧ ∀ H' y r, Ext TT [] H H' → Rw H' y r → r.length ≤ 50 → (∀ z ∈ r, 0 ≤ z ∧ z < ((n : Nat) : Int)) → Q y H'
theorem c_knows (F : ∃ f fd, FunAt K mg "_law_knows" "_law_knows" (topS 53) f fd) (T : Bl K mg) : Cal P w K mg base CX0 "_law_knows" 1 ["_law_net", "_law_i"] (sp_knows TT) := by
  have SC := sc_knows
  refine cal_of F sc_knows (fun _ _ _ _ _ _ us hl => match us, hl with | [_, _], _ => rfl) (fun vs H Q E h => by obtain ⟨v, i, n, rfl, _⟩ := h; rfl) fun f cdv A' outer s H vs Q E hr h => ?_
  obtain ⟨v, i, n, rfl, ⟨a, b, arcs, rfl, ha, hb, hl, harc⟩, q⟩ := h
  refine ⟨_, (pss_one (ps_ret (pe_callTy call_tuple_of (by rfl) T.ntuple (by decide +kernel) (pa_cons (pe_lc (own := [("_law_arc", 2)]) (by rfl) SC.nd (pi_tup (pe_ix ix_tup (pv 0) pe_int (fun _ _ => rfl))) (blkOk_by (by kernel_rfl)) (by intro _ _ _ _ _; exact (pg_name (i := 2) SC.nd rfl (.inl rfl))) (by intro _ _ _ _ _; exact (pts_one (pt_cmpR op_eq (pe_ix (ix_tupK (K := K) rfl) (pv 2) pe_int (fun _ _ => rfl)) (pv 1) (nomark _)))) (by intro _ _ _ _ _; exact (pe_ix (ix_tupK (K := K) rfl) (pv 2) pe_int (fun _ _ => rfl)))) pa_nil)))), ?_⟩
  refine ⟨_, rfl, a, _, _, _, rfl, rfl, sqt ha, atI_nat (j := 1) rfl, b, rfl, ⟨_, sqt hb⟩, fun D hD => lc_tup (fun k H' => ∃ ns : List Int, H' D = some (.lst (ns.map V.int)) ∧ ns.length ≤ k ∧ (∀ z ∈ ns, 0 ≤ z ∧ z < ((n : Nat) : Int)) ∧ Ext TT [] H H') ⟨[], upd_same, Nat.le_refl _, fun z hz => by simp at hz, .new hD⟩ (fun k H' _ h => sqt (h.choose_spec.2.2.2.tup _ _ hb)) ?_ ?_⟩
  · rintro k x H' hx ⟨ns, d1, d2, d3, x3⟩
    obtain ⟨c, i2, j2, rfl, hc, hi2, hj2⟩ := harc x (List.mem_of_getElem? hx)
    have hk : k < arcs.length := (List.getElem?_eq_some_iff.mp hx).1
    have hc3 := x3.tup _ _ hc
    refine ⟨rfl, _, rfl, c, _, _, _, rfl, rfl, sqt hc3, atI_nat (j := 0) rfl, _, rfl, rfl, _, rfl, ite2 (fun _ => ?_) (fun _ => ⟨ns, d1, by omega, d3, x3⟩)⟩
    refine ⟨_, rfl, c, _, _, _, rfl, rfl, sqt hc3, atI_nat (j := 1) rfl, _, d1, by rw [List.length_map]; exact lz1000 (by omega), ns ++ [j2], by rw [List.map_append]; exact upd_same, by rw [List.length_append]; exact Nat.succ_le_succ d2, fun z hz => ?_, x3.mut hD⟩
    rcases List.mem_append.mp hz with e | e
    · exact d3 z e
    · rw [List.mem_singleton.mp e]; exact hj2
  · rintro H' ⟨ns, d1, d2, d3, x3⟩
    exact ⟨D, _, rfl, .inl ⟨sql d1, fun l hl2 => q _ _ ns (x3.trans (.new hl2)) ⟨l, rfl, upd_same⟩ (by omega) d3⟩⟩
theorem sc_laud : FnScope ["_law_pool_here", "_law_net", "_law_p", "_law_unit", "_law_out", "_law_kind", "_law_knows_here", "_law_i", "_law_k", "_law_j"] ["_law_pool_here"] (defScope (topS 54)) := ⟨rfl, rfl, rfl, by decide +kernel, rfl, by decide +kernel, by decide +kernel⟩
def KindV (H : Hp) (v : V) : Prop := ∃ c p n, v = .ref c ∧ H c = some (.tup [.int p, .int ((n : Nat) : Int)]) ∧ isP p ∧ 1 ≤ n ∧ n ≤ 5
def sp_laud (TT : List Addr) : Sp := fun vs H Q _ => ∃ q, vs = [.ref q] ∧ PoolAt H q ∧ ∀ H' y p n ls, Ext TT [q] H H' → PoolAt H' q → OkA p n ls → Au H' y p ((n : Nat) : Int) ls → Q y H'
theorem c_laud (F : ∃ f fd, FunAt K mg "_law_audience" "_law_audience" (topS 54) f fd) (T : Bl K mg) (C_law_draw : Cal P w K mg base CX0 "_law_draw" 1 ["_law_pool_here", "_law_many"] (sp_draw TT)) (C_law_matrix : Cal P w K mg base CX0 "_law_matrix" 2 ["_law_pool_here", "_law_p", "_law_columns", "_law_many"] (sp_mat TT))
    (C_law_arcs : Cal P w K mg base CX0 "_law_arcs" 2 ["_law_pool_here", "_law_most", "_law_odds"] (sp_arcs TT)) (C_law_knows : Cal P w K mg base CX0 "_law_knows" 1 ["_law_net", "_law_i"] (sp_knows TT)) : Cal P w K mg base CX0 "_law_audience" 3 ["_law_pool_here"] (sp_laud TT) := by
  have SC := sc_laud
  refine cal_of F sc_laud (fun _ _ _ _ _ _ us hl => match us, hl with | [_], _ => rfl) (fun vs H Q E h => by obtain ⟨q, rfl, _⟩ := h; rfl) fun f cdv A' outer s H vs Q E hr h => ?_
  obtain ⟨q, rfl, hP, Qq⟩ := h
  refine ⟨_, (pss_cons (ps_if (pt_cmpR op_eq (pe_cal (E := E0) C_law_draw hr (by decide) (by rfl) pass0 (pa_cons (pv 0) (pa_cons pe_int pa_nil))) pe_int (nomark _)) (pss_cons (ps_set (i := 1) SC.nd rfl (.inr rfl) (pe_cal (E := E0) C_law_arcs hr (by decide) (by rfl) pass0 (pa_cons (pv 0) (pa_cons pe_int (pa_cons pe_int pa_nil)))))
      (pss_cons (ps_set (i := 2) SC.nd rfl (.inl rfl) (pe_ix ix_list (pe_lst (pa_cons pe_int (pa_cons pe_int (pa_cons pe_int (pa_cons pe_int pa_nil))))) (pe_cal (E := E0) C_law_draw hr (by decide) (by rfl) pass0 (pa_cons (pv 0) (pa_cons pe_int pa_nil))) (fun _ _ => rfl)))
      (pss_cons (ps_set (i := 3) SC.nd rfl (.inr rfl) (pe_lc (own := [("_law_i", 7)]) (by rfl) SC.nd (pi_range1 (by rfl) T.nrange (pa_cons (pe_ix ix_tup (pv 1) pe_int (fun _ _ => rfl)) pa_nil)) (blkOk_by (by kernel_rfl)) (by intro _ _ _ _ _; exact (pg_name (i := 7) SC.nd rfl (.inr rfl))) (by intro _ _ _ _ _; exact pts_nil) (by intro _ _ _ _ _; exact (pe_callTy (call_tuple_ofK (K := K) rfl) (by rfl) T.ntuple (by decide +kernel) (pa_cons (pe_lc (own := [("_law_k", 8)]) (by rfl) SC.nd (pi_range1 (by rfl) T.nrange (pa_cons (pe_ix (ix_tupK (K := K) rfl) (pv 1) pe_int (fun _ _ => rfl)) pa_nil)) (blkOk_by (by kernel_rfl)) (by intro _ _ _ _ _; exact (pg_name (i := 8) SC.nd rfl (.inl rfl))) (by intro _ _ _ _ _; exact pts_nil) (by intro _ _ _ _ _; exact (pe_callTy call_int1 (by rfl) T.nint (by decide +kernel) (pa_cons (pe_cmpR op_eq (pv 8) (pv 7) (nomark _)) pa_nil)))) pa_nil)))))
      (pss_cons (ps_set (i := 4) SC.nd rfl (.inl rfl) (pe_lst pa_nil))
      (pss_cons (ps_for PassesOwn.never rfl (pi_range1 (by rfl) T.nrange (pa_cons (pe_ix ix_tup (pv 1) pe_int (fun _ _ => rfl)) pa_nil)) (pg_name (i := 7) SC.nd rfl (.inl rfl)) (pss_one (ps_expr (pe_bm PySem.F.plainAttrs_list PySem.F.slot_list_append PySem.F.type_list_append mt_append (pv 4) (pa_cons (pe_tup (pa_cons (pe_callTy call_tuple_of (by rfl) T.ntuple (by decide +kernel) (pa_cons (pe_lc (own := [("_law_j", 9)]) (by rfl) SC.nd (pi_tup (pe_cal (E := E0) C_law_knows hr (by decide) (by rfl) pass0 (pa_cons (pv 1) (pa_cons (pv 7) pa_nil)))) (blkOk_by (by kernel_rfl)) (by intro _ _ _ _ _; exact (pg_name (i := 9) SC.nd rfl (.inl rfl))) (by intro _ _ _ _ _; exact pts_nil) (by intro _ _ _ _ _; exact (pe_ix (ix_listK (K := K) rfl) (pv 3) (pv 9) (fun _ _ => rfl)))) pa_nil)) (pa_cons (pe_tup (pa_cons (pe_ix ix_list (pv 3) (pv 7) (fun _ _ => rfl)) pa_nil)) pa_nil))) pa_nil)))))
      (pss_one (ps_ret (pe_tup (pa_cons (pv 2) (pa_cons (pe_ix ix_tup (pv 1) pe_int (fun _ _ => rfl)) (pa_cons (pe_callTy call_tuple_of (by rfl) T.ntuple (by decide +kernel) (pa_cons (pv 4) pa_nil)) pa_nil))))))))))) pss_nil)
    (pss_cons (ps_set (i := 5) SC.nd rfl (.inl rfl) (pe_ix ix_list (pe_lst (pa_cons (pe_tup (pa_cons pe_int (pa_cons pe_int pa_nil))) (pa_cons (pe_tup (pa_cons pe_int (pa_cons pe_int pa_nil))) (pa_cons (pe_tup (pa_cons pe_int (pa_cons pe_int pa_nil))) (pa_cons (pe_tup (pa_cons pe_int (pa_cons pe_int pa_nil))) (pa_cons (pe_tup (pa_cons pe_int (pa_cons pe_int pa_nil))) (pa_cons (pe_tup (pa_cons pe_int (pa_cons pe_int pa_nil))) (pa_cons (pe_tup (pa_cons pe_int (pa_cons pe_int pa_nil))) (pa_cons (pe_tup (pa_cons pe_int (pa_cons pe_int pa_nil))) (pa_cons (pe_tup (pa_cons pe_int (pa_cons pe_int pa_nil))) (pa_cons (pe_tup (pa_cons pe_int (pa_cons pe_int pa_nil))) pa_nil))))))))))) (pe_cal (E := E0) C_law_draw hr (by decide) (by rfl) pass0 (pa_cons (pv 0) (pa_cons pe_int pa_nil))) (fun _ _ => rfl)))
    (pss_cons (ps_set (i := 4) SC.nd rfl (.inl rfl) (pe_lst pa_nil))
    (pss_cons (ps_for PassesOwn.never rfl (pi_range1 (by rfl) T.nrange (pa_cons (pe_cal (E := E0) C_law_draw hr (by decide) (by rfl) pass0 (pa_cons (pv 0) (pa_cons pe_int pa_nil))) pa_nil)) (pg_name (i := 8) SC.nd rfl (.inl rfl)) (pss_cons (ps_set (i := 6) SC.nd rfl (.inl rfl) (pe_cal (E := E0) C_law_matrix hr (by decide) (by rfl) pass0 (pa_cons (pv 0) (pa_cons (pe_ix ix_tup (pv 5) pe_int (fun _ _ => rfl)) (pa_cons (pe_ix ix_tup (pv 5) pe_int (fun _ _ => rfl)) (pa_cons (pe_cal (E := E0) C_law_draw hr (by decide) (by rfl) pass0 (pa_cons (pv 0) (pa_cons pe_int pa_nil))) pa_nil))))))
      (pss_one (ps_expr (pe_bm PySem.F.plainAttrs_list PySem.F.slot_list_append PySem.F.type_list_append mt_append (pv 4) (pa_cons (pe_tup (pa_cons (pv 6) (pa_cons (pe_cal (E := E0) C_law_matrix hr (by decide) (by rfl) pass0 (pa_cons (pv 0) (pa_cons (pe_ix ix_tup (pv 5) pe_int (fun _ _ => rfl)) (pa_cons (pe_ix ix_tup (pv 5) pe_int (fun _ _ => rfl)) (pa_cons (pe_ix ix_list (pe_lst (pa_cons pe_int (pa_cons pe_int (pa_cons pe_int (pa_cons pe_int pa_nil))))) (pe_cal (E := E0) C_law_draw hr (by decide) (by rfl) pass0 (pa_cons (pv 0) (pa_cons pe_int pa_nil))) (fun _ _ => rfl)) pa_nil))))) pa_nil))) pa_nil))))))
    (pss_one (ps_ret (pe_tup (pa_cons (pe_ix ix_tup (pv 5) pe_int (fun _ _ => rfl)) (pa_cons (pe_ix ix_tup (pv 5) pe_int (fun _ _ => rfl)) (pa_cons (pe_callTy call_tuple_of (by rfl) T.ntuple (by decide +kernel) (pa_cons (pv 4) pa_nil)) pa_nil)))))))))), ?_⟩
  refine ⟨_, rfl, q, 2, rfl, hP, by decide, fun H1 r x1 hP1 _ _ => ?_⟩
  refine ⟨rfl, _, rfl, ite2 (fun _ => ?_) (fun _ => ?_)⟩
  · refine ⟨_, rfl, q, rfl, hP1, fun H2 nv n x2 hP2 n1 n5 hN => ?_⟩
    have hN0 := hN
    obtain ⟨na, nb, arcs, rfl, hna, hnb, hal, harc⟩ := hN
    refine ⟨by show 4 ≤ sizeLine; decide, fun t ht => ?_⟩
    have xt := Ext.new (T := TT) (M := [q]) (o := .lst [.int 2, .int 2, .int 2, .int 3]) ht
    have htq : t ≠ q := fun z => not_pool hP2 ht (by rw [z]; simp)
    refine ⟨_, rfl, q, 4, rfl, xt.poolAt hP2, by decide, fun H3 r3 x3 hP3 r0 r1 => ?_⟩
    obtain ⟨z, hz, ez⟩ := pickV (xs := [.int 2, .int 2, .int 2, .int 3]) r0 r1
    have hz' : ∃ c, z = .int c ∧ isP c := by
      simp only [List.mem_cons, List.not_mem_nil, or_false] at hz
      rcases hz with rfl | rfl | rfl | rfl
      · exact ⟨2, rfl, .inl rfl⟩
      · exact ⟨2, rfl, .inl rfl⟩
      · exact ⟨2, rfl, .inl rfl⟩
      · exact ⟨3, rfl, .inr (.inl rfl)⟩
    obtain ⟨c, rfl, hc⟩ := hz'
    have c2 := hc.two
    have x23 := xt.trans x3
    have x03 := (x1.trans x2).trans x23
    refine ⟨t, _, r3, _, rfl, rfl, sql (x3.lstq htq upd_same), ez, ?_⟩
    have hna3 := x23.tup _ _ hna
    refine ⟨_, rfl, na, _, _, _, rfl, rfl, sqt hna3, atI_nat (j := 0) rfl, ((n : Nat) : Int), rfl, by omega, by omega, fun D hD => lc_range (lo := 0) (n := n) (fun i H' => OutI D c n i H' ∧ Ext TT [q] H3 H') (OutI.start hD) (fun i H' hi p0 => ?_) ?_⟩
    · have hDq : D ≠ q := fun z => not_pool hP3 hD (by rw [z]; simp)
      have hP' := p0.2.poolAt hP3
      refine ⟨rfl, yes ⟨_, rfl, na, _, _, _, rfl, rfl, sqt (p0.2.tup _ _ hna3), atI_nat (j := 0) rfl, ((n : Nat) : Int), rfl, by omega, by omega, fun D2 hD2 => lc_range (lo := 0) (n := n) (LW TT [q] D2 H' (fun z => 0 ≤ z ∧ z < c)) (.start hD2) (fun k H7 hk lw => ⟨rfl, yes ⟨_, rfl, _, rfl, rfl, .inr ⟨_, rfl, lw.push hD2 (not_pool hP' hD2) (.refl _) (by split <;> omega) (by omega)⟩⟩⟩) ?_⟩⟩
      rintro H7 ⟨ns, d1, d2, d3, x7⟩
      refine ⟨D2, _, rfl, .inl ⟨sql d1, fun l hl => ?_⟩⟩
      exact OutI.step p0 hD hDq (x7.trans (.new hl)) (r := ns) ⟨l, rfl, upd_same⟩ ⟨d2, d3⟩ (by omega)
    · rintro H4 ⟨hU, x4⟩
      have hDq : D ≠ q := fun z => not_pool hP3 hD (by rw [z]; simp)
      have hP4 := x4.poolAt hP3
      refine ⟨Nat.zero_le _, fun o ho => ?_⟩
      have hoq : o ≠ q := fun z => not_pool hP4 ho (by rw [z]; simp)
      have x04 := x03.trans x4
      have noH : H o = none := x04.dom _ ho
      have xo := Ext.new (T := TT) (M := [q]) (o := .lst []) ho
      have nDo : D ≠ o := fun z => by
        obtain ⟨vs, Rs, h1, _⟩ := hU
        rw [z, ho] at h1
        cases h1
      have x35 := x4.trans xo
      refine ⟨_, rfl, na, _, _, _, rfl, rfl, sqt (x35.tup _ _ hna3), atI_nat (j := 0) rfl, ((n : Nat) : Int), rfl, by omega, by omega, for_range (lo := 0) (n := n) (fun i σ H' => (∃ y7, σ = [some (.ref q), some (.ref na), some (.int c), some (.ref D), some (.ref o), none, none, y7, none, none]) ∧ OutA o c n i H' ∧ OutI D c n n H' ∧ Ext TT [q] H H' ∧ NetV H' (.ref na) n)
        ⟨⟨_, rfl⟩, ⟨[], [], upd_same, .nil, fun r hr => by simp at hr, rfl⟩, hU.mono xo hDq, x04.trans xo, hN0.mono (x23.trans x35)⟩ ?_ ?_⟩
      · rintro i σ H5 hi ⟨⟨y7, rfl⟩, hO, hU5, x5, hN5⟩
        rw [Int.zero_add]
        refine ⟨_, rfl, hO.ty, _, rfl, _, rfl, .ref na, (i : Int), n, rfl, hN5, fun H6 y r x6 hy hrl hrz => ?_⟩
        obtain ⟨ya, rfl, hya⟩ := hy
        have hP6 := (x5.trans x6.up).poolAt hP
        have hU6 := hU5.mono (x6.up (M := [q])) hDq
        refine ⟨ya, rfl, ⟨_, sqt hya⟩, fun D3 hD3 => lc_tup (fun k H' => OutI D3 c n k H' ∧ Ext TT [q] H6 H') (OutI.start hD3) (fun k H' _ h => sqt (h.2.tup _ _ hya)) (fun k x H' hx p0 => ?_) ?_⟩
        · have hD3q : D3 ≠ q := fun z => not_pool hP6 hD3 (by rw [z]; simp)
          obtain ⟨rfl, hk⟩ := getI hx
          have hb : 0 ≤ g r k ∧ g r k < (n : Int) := by rw [g_of (List.getElem?_eq_getElem hk)]; exact hrz _ (List.getElem_mem hk)
          obtain ⟨jn, hjn⟩ := Int.eq_ofNat_of_zero_le hb.1
          obtain ⟨vs, Rs, u1, u2, u3, u4⟩ := hU6.mono p0.2 hDq
          have hjl : jn < vs.length := by rw [u2.length]; omega
          obtain ⟨rr, hrr, hrw⟩ := paired_get u2 (List.getElem?_eq_getElem hjl)
          rw [hjn]
          exact ⟨rfl, yes ⟨_, rfl, _, rfl, D, vs, _, _, rfl, rfl, sql u1, atI_nat (List.getElem?_eq_getElem hjl), OutI.step p0 hD3 hD3q (.refl _) hrw (u3 rr (List.mem_of_getElem? hrr)) (by omega)⟩⟩
        · rintro H7 ⟨hK, x7⟩
          rw [List.length_map] at hK
          obtain ⟨kvs, KRs, k1, k2, k3, k4⟩ := hK
          refine ⟨D3, _, rfl, .inl ⟨sql k1, fun l hl => ?_⟩⟩
          have xl := Ext.new (T := TT) (M := [q]) (o := .tup kvs) hl
          obtain ⟨vs, Rs, u1, u2, u3, u4⟩ := (hU6.mono x7 hDq).mono xl hDq
          have hil : i < vs.length := by rw [u2.length]; omega
          obtain ⟨rr, hrr, hrw⟩ := paired_get u2 (List.getElem?_eq_getElem hil)
          refine ⟨_, rfl, _, rfl, D, vs, _, _, rfl, rfl, sql u1, atI_nat (List.getElem?_eq_getElem hil), by show 1 ≤ sizeLine; decide, fun t1 ht1 => ⟨by show 2 ≤ sizeLine; decide, fun t2 ht2 => ?_⟩⟩
          have z1 := Ext.new (T := TT) (M := [q]) (o := .tup [vs[i]]) ht1
          have z2 := Ext.new (T := TT) (M := [q]) (o := .tup [.ref l, .ref t1]) ht2
          have x58 := (((x6.up (M := [q])).trans x7).trans xl).trans (z1.trans z2)
          have okr := u3 rr (List.mem_of_getElem? hrr)
          refine OutA.push (hO.mono x58 hoq) (r := (KRs, [rr])) ⟨t2, .ref l, .ref t1, rfl, upd_same, ⟨l, kvs, rfl, (z1.trans z2).tup _ _ upd_same, L2.Paired.mapP k2 fun _ _ q => q.mono (xl.trans (z1.trans z2))⟩, ⟨t1, [vs[i]], rfl, z2.tup _ _ upd_same, .cons (hrw.mono (z1.trans z2)) .nil⟩⟩
            ⟨k3, fun r' h' => by rw [List.mem_singleton.mp h']; exact okr, by show KRs.length ≤ 50; omega, by show 1 ≤ 50; decide⟩ (by omega) fun ob hO9 => ?_
          refine ⟨⟨_, rfl⟩, hO9, ?_, (x5.trans x58).mut noH, ?_⟩
          · obtain ⟨vs, Rs, u1, u2, u3, u4⟩ := hU5.mono x58 hDq
            obtain ⟨ovs, _, o1, _⟩ := hO.mono x58 hoq
            exact ⟨vs, Rs, by rw [upd_ne nDo]; exact u1, L2.Paired.mapP u2 fun _ _ ⟨b, e, hb⟩ => ⟨b, e, tup_upd o1 (fun xs z => by cases z) hb⟩, u3, u4⟩
          · obtain ⟨ovs, _, o1, _⟩ := hO.mono x58 hoq
            exact (hN5.mono x58).upd o1 (fun xs z => by cases z)
      · rintro σ H5 ⟨⟨y7, rfl⟩, ⟨vs, Ls, o1, o2, o3, o4⟩, hU5, x5, ⟨na', nb', arcs', e, hna5, _⟩⟩
        cases e
        refine ⟨_, rfl, _, rfl, na, _, _, _, rfl, rfl, sqt hna5, atI_nat (j := 0) rfl, _, rfl, o, vs, rfl, .inl ⟨sql o1, fun l hl => ⟨by show 3 ≤ sizeLine; decide, fun t hta => ?_⟩⟩⟩
        have xl := Ext.new (T := TT) (M := [q]) (o := .tup vs) hl
        have xt2 := Ext.new (T := TT) (M := [q]) (o := .tup [.int c, .int ((n : Nat) : Int), .ref l]) hta
        exact Qq _ _ c n Ls ((x5.trans xl).trans xt2) (((x5.trans xl).trans xt2).poolAt hP) ⟨hc, n1, n5, by omega, o3⟩ ⟨t, .ref l, rfl, upd_same, l, vs, rfl, xt2.tup _ _ upd_same, L2.Paired.mapP o2 fun _ _ q => q.mono (xl.trans xt2)⟩
  · skip
    refine ⟨by show 2 ≤ sizeLine; decide, fun t1 h1 => ?_⟩
    have y1 := Ext.new (T := TT) (M := [q]) (o := .tup [.int 2, .int 1]) h1
    refine ⟨by show 2 ≤ sizeLine; decide, fun t2 h2 => ?_⟩
    have y2 := Ext.new (T := TT) (M := [q]) (o := .tup [.int 2, .int 2]) h2
    refine ⟨by show 2 ≤ sizeLine; decide, fun t3 h3 => ?_⟩
    have y3 := Ext.new (T := TT) (M := [q]) (o := .tup [.int 2, .int 3]) h3
    refine ⟨by show 2 ≤ sizeLine; decide, fun t4 h4 => ?_⟩
    have y4 := Ext.new (T := TT) (M := [q]) (o := .tup [.int 2, .int 4]) h4
    refine ⟨by show 2 ≤ sizeLine; decide, fun t5 h5 => ?_⟩
    have y5 := Ext.new (T := TT) (M := [q]) (o := .tup [.int 3, .int 2]) h5
    refine ⟨by show 2 ≤ sizeLine; decide, fun t6 h6 => ?_⟩
    have y6 := Ext.new (T := TT) (M := [q]) (o := .tup [.int 3, .int 3]) h6
    refine ⟨by show 2 ≤ sizeLine; decide, fun t7 h7 => ?_⟩
    have y7 := Ext.new (T := TT) (M := [q]) (o := .tup [.int 2, .int 5]) h7
    refine ⟨by show 2 ≤ sizeLine; decide, fun t8 h8 => ?_⟩
    have y8 := Ext.new (T := TT) (M := [q]) (o := .tup [.int 5, .int 2]) h8
    refine ⟨by show 2 ≤ sizeLine; decide, fun t9 h9 => ?_⟩
    have y9 := Ext.new (T := TT) (M := [q]) (o := .tup [.int 2, .int 3]) h9
    refine ⟨by show 2 ≤ sizeLine; decide, fun t10 h10 => ?_⟩
    have y10 := Ext.new (T := TT) (M := [q]) (o := .tup [.int 3, .int 3]) h10
    refine ⟨by show 10 ≤ sizeLine; decide, fun t ht => ?_⟩
    have yt := Ext.new (T := TT) (M := [q]) (o := .lst [.ref t1, .ref t2, .ref t3, .ref t4, .ref t5, .ref t6, .ref t7, .ref t8, .ref t9, .ref t10]) ht
    have y0 := (((((((((y1.trans y2).trans y3).trans y4).trans y5).trans y6).trans y7).trans y8).trans y9).trans y10)
    have hPt := (y0.trans yt).poolAt hP1
    have htq : t ≠ q := fun z => not_pool (y0.poolAt hP1) ht (by rw [z]; simp)
    refine ⟨_, rfl, q, 10, rfl, hPt, by decide, fun H3 r3 x3 hP3 r0 r1 => ?_⟩
    obtain ⟨z, hz, ez⟩ := pickV (xs := [.ref t1, .ref t2, .ref t3, .ref t4, .ref t5, .ref t6, .ref t7, .ref t8, .ref t9, .ref t10]) r0 r1
    have hz' : KindV H3 z := by
      have up : ∀ {v}, KindV _ v → KindV H3 v := fun {v} ⟨c, p, n, e, h, r⟩ => ⟨c, p, n, e, (yt.trans x3).tup _ _ h, r⟩
      simp only [List.mem_cons, List.not_mem_nil, or_false] at hz
      rcases hz with rfl | rfl | rfl | rfl | rfl | rfl | rfl | rfl | rfl | rfl
      · exact up ⟨t1, 2, 1, rfl, (y10.tup _ _ (y9.tup _ _ (y8.tup _ _ (y7.tup _ _ (y6.tup _ _ (y5.tup _ _ (y4.tup _ _ (y3.tup _ _ (y2.tup _ _ upd_same))))))))), .inl rfl, by decide, by decide⟩
      · exact up ⟨t2, 2, 2, rfl, (y10.tup _ _ (y9.tup _ _ (y8.tup _ _ (y7.tup _ _ (y6.tup _ _ (y5.tup _ _ (y4.tup _ _ (y3.tup _ _ upd_same)))))))), .inl rfl, by decide, by decide⟩
      · exact up ⟨t3, 2, 3, rfl, (y10.tup _ _ (y9.tup _ _ (y8.tup _ _ (y7.tup _ _ (y6.tup _ _ (y5.tup _ _ (y4.tup _ _ upd_same))))))), .inl rfl, by decide, by decide⟩
      · exact up ⟨t4, 2, 4, rfl, (y10.tup _ _ (y9.tup _ _ (y8.tup _ _ (y7.tup _ _ (y6.tup _ _ (y5.tup _ _ upd_same)))))), .inl rfl, by decide, by decide⟩
      · exact up ⟨t5, 3, 2, rfl, (y10.tup _ _ (y9.tup _ _ (y8.tup _ _ (y7.tup _ _ (y6.tup _ _ upd_same))))), .inr (.inl rfl), by decide, by decide⟩
      · exact up ⟨t6, 3, 3, rfl, (y10.tup _ _ (y9.tup _ _ (y8.tup _ _ (y7.tup _ _ upd_same)))), .inr (.inl rfl), by decide, by decide⟩
      · exact up ⟨t7, 2, 5, rfl, (y10.tup _ _ (y9.tup _ _ (y8.tup _ _ upd_same))), .inl rfl, by decide, by decide⟩
      · exact up ⟨t8, 5, 2, rfl, (y10.tup _ _ (y9.tup _ _ upd_same)), .inr (.inr rfl), by decide, by decide⟩
      · exact up ⟨t9, 2, 3, rfl, (y10.tup _ _ upd_same), .inl rfl, by decide, by decide⟩
      · exact up ⟨t10, 3, 3, rfl, upd_same, .inr (.inl rfl), by decide, by decide⟩
    obtain ⟨kc, p, n, rfl, hkc, hp, n1, n5⟩ := hz'
    have x13 := (x1.trans y0).trans (yt.trans x3)
    refine ⟨t, _, r3, _, rfl, rfl, sql (x3.lstq htq upd_same), ez, ?_⟩
    refine ⟨Nat.zero_le _, fun o ho => ?_⟩
    have hoq : o ≠ q := fun z => not_pool hP3 ho (by rw [z]; simp)
    have noH : H o = none := x13.dom _ ho
    have xo := Ext.new (T := TT) (M := [q]) (o := .lst []) ho
    refine ⟨_, rfl, q, 5, rfl, xo.poolAt hP3, by decide, fun H4 m x4 hP4 m0 m1 => ⟨m, rfl, by omega, by omega, for_range (lo := 0) (n := m.toNat) (fun i σ H' => (∃ y6 y8, σ = [some (.ref q), none, none, none, some (.ref o), some (.ref kc), y6, none, y8, none]) ∧ OutA o p n i H' ∧ Ext TT [q] H H' ∧ H' kc = some (.tup [.int p, .int ((n : Nat) : Int)]))
      ⟨⟨_, _, rfl⟩, (show OutA o p n 0 _ from ⟨[], [], upd_same, .nil, fun r hr => by simp at hr, rfl⟩).mono x4 hoq, (x13.trans xo).trans x4, (xo.trans x4).tup _ _ hkc⟩ ?_ ?_⟩⟩
    · rintro i σ H5 hi ⟨⟨y6, y8, rfl⟩, hO, x5, hk5⟩
      have hP5 := x5.poolAt hP
      refine ⟨_, rfl, _, rfl, kc, _, _, _, rfl, rfl, sqt hk5, atI_nat (j := 0) rfl, _, rfl, kc, _, _, _, rfl, rfl, sqt hk5, atI_nat (j := 1) rfl, _, rfl, q, 3, rfl, hP5, by decide, fun H6 m6 x6 hP6 c0 c1 => ?_⟩
      obtain ⟨m6, rfl⟩ := Int.eq_ofNat_of_zero_le c0
      refine ⟨q, p, n, m6, rfl, hp, n1, n5, by omega, hP6, fun H7 kv KR x7 hP7 hkv okk lk => ?_⟩
      have x57 := x6.trans x7
      have hk7 := x57.tup _ _ hk5
      refine ⟨_, rfl, (hO.mono x57 hoq).ty, _, rfl, _, rfl, _, rfl, kc, _, _, _, rfl, rfl, sqt hk7, atI_nat (j := 0) rfl, _, rfl, kc, _, _, _, rfl, rfl, sqt hk7, atI_nat (j := 1) rfl, by show 4 ≤ sizeLine; decide, fun t9 ht9 => ?_⟩
      have xt9 := Ext.new (T := TT) (M := [q]) (o := .lst [.int 1, .int 1, .int 2, .int 0]) ht9
      have ht9q : t9 ≠ q := fun z => not_pool hP7 ht9 (by rw [z]; simp)
      refine ⟨_, rfl, q, 4, rfl, xt9.poolAt hP7, by decide, fun H8 r8 x8 hP8 s0 s1 => ?_⟩
      obtain ⟨z, hz, ez⟩ := pickV (xs := [.int 1, .int 1, .int 2, .int 0]) s0 s1
      have hz' : ∃ c : Nat, z = .int ((c : Nat) : Int) ∧ c ≤ 2 := by
        simp only [List.mem_cons, List.not_mem_nil, or_false] at hz
        rcases hz with rfl | rfl | rfl | rfl
        · exact ⟨1, rfl, by decide⟩
        · exact ⟨1, rfl, by decide⟩
        · exact ⟨2, rfl, by decide⟩
        · exact ⟨0, rfl, by decide⟩
      obtain ⟨c, rfl, hc⟩ := hz'
      refine ⟨t9, _, r8, _, rfl, rfl, sql (x8.lstq ht9q upd_same), ez, q, p, n, c, rfl, hp, n1, n5, by omega, hP8, fun H9 wv WR x9 hP9 hwv okw lw => ⟨by show 2 ≤ sizeLine; decide, fun ta hta => ?_⟩⟩
      have xa := Ext.new (T := TT) (M := [q]) (o := .tup [kv, wv]) hta
      have x79 := ((xt9.trans x8).trans x9).trans xa
      have x5a := x57.trans x79
      refine OutA.push (hO.mono x5a hoq) (r := (KR, WR)) ⟨ta, kv, wv, rfl, upd_same, hkv.mono x79, hwv.mono xa⟩ ⟨okk, okw, by show KR.length ≤ 50; omega, by show WR.length ≤ 50; omega⟩ (by omega) fun ob hO9 => ?_
      obtain ⟨ovs, _, o1, _⟩ := hO.mono x5a hoq
      exact ⟨⟨_, _, rfl⟩, hO9, (x5.trans x5a).mut noH, tup_upd o1 (fun xs z => by cases z) (x5a.tup _ _ hk5)⟩
    · rintro σ H5 ⟨⟨y6, y8, rfl⟩, ⟨vs, Ls, o1, o2, o3, o4⟩, x5, hk5⟩
      refine ⟨_, rfl, kc, _, _, _, rfl, rfl, sqt hk5, atI_nat (j := 0) rfl, _, rfl, kc, _, _, _, rfl, rfl, sqt hk5, atI_nat (j := 1) rfl, _, rfl, o, vs, rfl, .inl ⟨sql o1, fun l hl => ⟨by show 3 ≤ sizeLine; decide, fun t hta => ?_⟩⟩⟩
      have xl := Ext.new (T := TT) (M := [q]) (o := .tup vs) hl
      have xt2 := Ext.new (T := TT) (M := [q]) (o := .tup [.int p, .int ((n : Nat) : Int), .ref l]) hta
      exact Qq _ _ p n Ls ((x5.trans xl).trans xt2) (((x5.trans xl).trans xt2).poolAt hP) ⟨hp, n1, n5, by omega, o3⟩ ⟨t, .ref l, rfl, upd_same, l, vs, rfl, xt2.tup _ _ upd_same, L2.Paired.mapP o2 fun _ _ q => q.mono (xl.trans xt2)⟩
end
end K17
end

section
set_option linter.all false
set_option maxRecDepth 100000
set_option maxHeartbeats 2000000
/-! values that are no matrix, no listener -/
namespace K17
open PySem PySem.Spec PyProof.Rows L2 G17 M17
open GxR (TabG Tabbed)
def Sc (v : V) : Prop := v = .non ∨ (∃ b, v = .bl b) ∨ (∃ i, v = .int i) ∨ ∃ x, v = .str x
def T1 (q : Addr) (H : Hp) (v : V) : Prop := Sc v ∨ ∃ a xs, v = .ref a ∧ (H a = some (.tup xs) ∨ (a ≠ q ∧ H a = some (.lst xs))) ∧ xs.length ≤ 1000 ∧ ∀ y ∈ xs, Sc y
def T2 (q : Addr) (H : Hp) (v : V) : Prop := Sc v ∨ ∃ a xs, v = .ref a ∧ (H a = some (.tup xs) ∨ (a ≠ q ∧ H a = some (.lst xs))) ∧ xs.length ≤ 1000 ∧ ∀ y ∈ xs, T1 q H y
def BadRow (q : Addr) (p n : Int) (H : Hp) (v : V) : Prop := Sc v ∨ (∃ a xs, v = .ref a ∧ a ≠ q ∧ H a = some (.lst xs) ∧ xs.length ≤ 1000 ∧ ∀ y ∈ xs, Sc y) ∨
  ∃ a xs, v = .ref a ∧ H a = some (.tup xs) ∧ xs.length ≤ 1000 ∧ (∀ y ∈ xs, Sc y) ∧ ((xs.length : Int) ≠ n ∨ ∃ y ∈ xs, letB y p = false)
def BadMat (q : Addr) (p n : Int) (H : Hp) (v : V) : Prop := Sc v ∨ (∃ a vs, v = .ref a ∧ a ≠ q ∧ H a = some (.lst vs) ∧ vs.length ≤ 1000 ∧ ∀ x ∈ vs, T1 q H x) ∨
  ∃ a vs, v = .ref a ∧ H a = some (.tup vs) ∧ vs.length ≤ 1000 ∧ (∀ x ∈ vs, T1 q H x) ∧ ∃ x ∈ vs, BadRow q p n H x
section
variable {T : List Addr} {q : Addr} {p n : Int} {H H' : Hp} {v : V}
theorem T1.mono (h : T1 q H v) (x : Ext T [q] H H') : T1 q H' v := by
  rcases h with h | ⟨a, xs, e, h, r⟩
  · exact .inl h
  · exact .inr ⟨a, xs, e, h.elim (fun z => .inl (x.tup _ _ z)) (fun z => .inr ⟨z.1, x.lstq z.1 z.2⟩), r⟩
theorem T2.mono (h : T2 q H v) (x : Ext T [q] H H') : T2 q H' v := by
  rcases h with h | ⟨a, xs, e, h, hl, r⟩
  · exact .inl h
  · exact .inr ⟨a, xs, e, h.elim (fun z => .inl (x.tup _ _ z)) (fun z => .inr ⟨z.1, x.lstq z.1 z.2⟩), hl, fun y hy => (r y hy).mono x⟩
theorem BadRow.mono (h : BadRow q p n H v) (x : Ext T [q] H H') : BadRow q p n H' v := by
  rcases h with h | ⟨a, xs, e, hq, h, r⟩ | ⟨a, xs, e, h, r⟩
  · exact .inl h
  · exact .inr (.inl ⟨a, xs, e, hq, x.lstq hq h, r⟩)
  · exact .inr (.inr ⟨a, xs, e, x.tup _ _ h, r⟩)
theorem BadMat.mono (h : BadMat q p n H v) (x : Ext T [q] H H') : BadMat q p n H' v := by
  rcases h with h | ⟨a, xs, e, hq, h, hl, r⟩ | ⟨a, xs, e, h, hl, r, y, hy, hb⟩
  · exact .inl h
  · exact .inr (.inl ⟨a, xs, e, hq, x.lstq hq h, hl, fun y hy => (r y hy).mono x⟩)
  · exact .inr (.inr ⟨a, xs, e, x.tup _ _ h, hl, fun y hy => (r y hy).mono x, y, hy, hb.mono x⟩)
theorem BadRow.t1 (h : BadRow q p n H v) : T1 q H v := by
  rcases h with h | ⟨a, xs, e, hq, h, hl, r⟩ | ⟨a, xs, e, h, hl, r, _⟩
  · exact .inl h
  · exact .inr ⟨a, xs, e, .inr ⟨hq, h⟩, hl, r⟩
  · exact .inr ⟨a, xs, e, .inl h, hl, r⟩
theorem BadMat.t2 (h : BadMat q p n H v) : T2 q H v := by
  rcases h with h | ⟨a, xs, e, hq, h, hl, r⟩ | ⟨a, xs, e, h, hl, r, _⟩
  · exact .inl h
  · exact .inr ⟨a, xs, e, .inr ⟨hq, h⟩, hl, r⟩
  · exact .inr ⟨a, xs, e, .inl h, hl, r⟩
theorem T1.t2 (h : T1 q H v) : T2 q H v := by
  rcases h with h | ⟨a, xs, e, h, hl, r⟩
  · exact .inl h
  · exact .inr ⟨a, xs, e, h, hl, fun y hy => .inl (r y hy)⟩
theorem Sc.kd (h : Sc v) : ∃ t, Kd H v t ∧ t ≠ "tuple" ∧ t ≠ "list" := by
  rcases h with rfl | ⟨b, rfl⟩ | ⟨i, rfl⟩ | ⟨x, rfl⟩
  · exact ⟨_, .non, by decide, by decide⟩
  · exact ⟨_, .bl b, by decide, by decide⟩
  · exact ⟨_, .int i, by decide, by decide⟩
  · exact ⟨_, .str x, by decide, by decide⟩
theorem T2.kd (h : T2 q H v) : ∃ t, Kd H v t := by
  rcases h with h | ⟨a, xs, rfl, h, _⟩
  · exact let ⟨t, h, _⟩ := h.kd (H := H); ⟨t, h⟩
  · exact h.elim (fun z => ⟨_, .tup z⟩) (fun z => ⟨_, .lst z.2⟩)
theorem T1.row (h : T1 q H v) : ∃ b, RowR H p n v b := by
  rcases h with h | ⟨a, xs, rfl, h, hl, r⟩
  · obtain ⟨t, hk, h1, _⟩ := h.kd (H := H)
    exact ⟨false, .inl ⟨t, hk, h1, rfl⟩⟩
  · rcases h with h | h
    · exact ⟨_, .inr ⟨a, xs, rfl, h, fun x hx => let ⟨t, k, _⟩ := (r x hx).kd (H := H); ⟨t, k⟩, rfl⟩⟩
    · exact ⟨false, .inl ⟨_, .lst h.2, by decide, rfl⟩⟩
theorem BadRow.row (h : BadRow q p n H v) : RowR H p n v false := by
  rcases h with h | ⟨a, xs, rfl, hq, h, hl, r⟩ | ⟨a, xs, rfl, h, hl, r, hb⟩
  · obtain ⟨t, hk, h1, _⟩ := h.kd (H := H)
    exact .inl ⟨t, hk, h1, rfl⟩
  · exact .inl ⟨_, .lst h, by decide, rfl⟩
  · refine .inr ⟨a, xs, rfl, h, fun x hx => let ⟨t, k, _⟩ := (r x hx).kd (H := H); ⟨t, k⟩, ?_⟩
    rcases hb with hb | ⟨y, hy, hb⟩
    · rw [decide_eq_false hb, Bool.false_and]
    · have : (xs.all fun x => letB x p) = false := List.all_eq_false.mpr ⟨y, hy, by rw [hb]; decide⟩
      rw [this, Bool.and_false]
theorem mat_bs : ∀ {vs : List V}, (∀ x ∈ vs, ∃ b, RowR H p n x b) → ∃ bs, Paired (RowR H p n) vs bs
  | [], _ => ⟨[], .nil⟩
  | v :: vs, h => by
    obtain ⟨b, hb⟩ := h v (by simp)
    obtain ⟨bs, hbs⟩ := mat_bs fun x hx => h x (List.mem_cons_of_mem _ hx)
    exact ⟨b :: bs, .cons hb hbs⟩
theorem mat_bad : ∀ {vs : List V}, (∀ x ∈ vs, ∃ b, RowR H p n x b) → (∃ x ∈ vs, RowR H p n x false) → ∃ bs, Paired (RowR H p n) vs bs ∧ bs.all id = false
  | [], _, ⟨x, hx, _⟩ => by cases hx
  | v :: vs, h, ⟨x, hx, hb⟩ => by
    rcases List.mem_cons.mp hx with rfl | hx
    · obtain ⟨bs, hbs⟩ := mat_bs fun x hx => h x (List.mem_cons_of_mem _ hx)
      exact ⟨false :: bs, .cons hb hbs, rfl⟩
    · obtain ⟨b, hb1⟩ := h v (by simp)
      obtain ⟨bs, hbs, e⟩ := mat_bad (fun x hx => h x (List.mem_cons_of_mem _ hx)) ⟨x, hx, hb⟩
      refine ⟨b :: bs, .cons hb1 hbs, ?_⟩
      show (b && bs.all id) = false
      rw [e, Bool.and_false]
theorem BadMat.mat (h : BadMat q p n H v) : MatR H p n v false := by
  rcases h with h | ⟨a, xs, rfl, hq, h, hl, r⟩ | ⟨a, xs, rfl, h, hl, r, y, hy, hb⟩
  · obtain ⟨t, hk, h1, _⟩ := h.kd (H := H)
    exact .inl ⟨t, hk, h1, rfl⟩
  · exact .inl ⟨_, .lst h, by decide, rfl⟩
  · obtain ⟨bs, hbs, e⟩ := mat_bad (fun x hx => (r x hx).row) ⟨y, hy, hb.row⟩
    exact .inr ⟨a, xs, bs, rfl, h, hbs, e.symm⟩
theorem sc_int (i : Int) : Sc (.int i) := .inr (.inr (.inl ⟨i, rfl⟩))
theorem sc_bl (b : Bool) : Sc (.bl b) := .inr (.inl ⟨b, rfl⟩)
theorem sc_str (x : Str) : Sc (.str x) := .inr (.inr (.inr ⟨x, rfl⟩))
theorem sc_non : Sc .non := .inl rfl
theorem sc_ints (r : List Int) : ∀ y ∈ r.map V.int, Sc y := fun y hy => by
  obtain ⟨i, _, rfl⟩ := List.mem_map.mp hy
  exact sc_int i
theorem rows_t1 {R : List M17.Row} : ∀ {vs : List V}, Paired (Rw H) vs R → (∀ r ∈ R, r.length ≤ 1000) → ∀ x ∈ vs, T1 q H x := by
  intro vs h
  induction h with
  | nil => intro _ x hx; cases hx
  | @cons v r vs R h t ih =>
    intro hr x hx
    rcases List.mem_cons.mp hx with rfl | hx
    · obtain ⟨a, rfl, ha⟩ := h
      exact .inr ⟨a, _, rfl, .inl ha, by rw [List.length_map]; exact hr r (by simp), sc_ints r⟩
    · exact ih (fun r hr' => hr r (List.mem_cons_of_mem _ hr')) x hx
end
section
variable {K : PySem.W.Frag} {TT : List Addr} {q : Addr} {p n : Int} {H : Hp} {v w : V} {Q : VK} {R : List M17.Row}
theorem cat_t {a b : Addr} {xs ys : List V} (ha : H a = some (.tup xs)) (hb : H b = some (.tup ys)) (hz : xs.length + ys.length ≤ 2000) (h : ∀ H' c, Ext TT [] H H' → H' c = some (.tup (xs ++ ys)) → Q (.ref c) H') : rCatA K (.ref a) (.ref b) H Q := by
  refine ⟨a, b, xs, ys, rfl, rfl, sqt ha, sqt hb, sz1000 (by omega), fun z => ?_, fun _ z => ?_, fun _ _ p hp => h _ _ (.new hp) upd_same⟩
  · subst z; exact h _ _ (.refl H) hb
  · subst z; exact h _ _ (.refl H) (by rw [List.append_nil]; exact ha)
theorem slice_tl {a : Addr} {xs : List V} (ha : H a = some (.tup xs)) (h : ∀ H' c, Ext TT [] H H' → H' c = some (.tup (xs.drop 1)) → Q (.ref c) H') : rSlA K (.ref a) (some 1) none H Q := by
  have e : cutV xs (some 1) none = xs.drop 1 := by
    unfold cutV
    rw [HT.sIx_none, show (1 : Int) = ((1 : Nat) : Int) from rfl, HT.sIx_nat]
    cases xs with
    | nil => rfl
    | cons x r =>
      rw [show min 1 (x :: r).length = 1 by simp]
      exact List.take_of_length_le (by simp)
  refine ⟨a, xs, rfl, sqt ha, fun z => ?_, fun _ p hp => by rw [e]; exact h _ _ (.new hp) upd_same⟩
  have z1 := z.1
  rw [show (1 : Int) = ((1 : Nat) : Int) from rfl, HT.sIx_nat] at z1
  have : xs = [] := List.eq_nil_of_length_eq_zero (by omega)
  subst this
  exact h _ _ (.refl H) ha
theorem slice_init {a : Addr} {xs : List V} (ha : H a = some (.tup xs)) (h : ∀ H' c, Ext TT [] H H' → H' c = some (.tup (xs.take (xs.length - 1))) → Q (.ref c) H') : rSlA K (.ref a) none (some (-1)) H Q := by
  have e0 : HT.sIx xs.length xs.length (some (-1)) = xs.length - 1 := by
    show (if (-1 : Int) < 0 then (-1 + (xs.length : Int)).toNat else min (-1 : Int).toNat xs.length) = _
    rw [if_pos (by decide)]
    omega
  have e : cutV xs none (some (-1)) = xs.take (xs.length - 1) := by
    unfold cutV
    rw [HT.sIx_none, e0, Nat.sub_zero, List.drop_zero]
  refine ⟨a, xs, rfl, sqt ha, fun z => ?_, fun _ p hp => by rw [e]; exact h _ _ (.new hp) upd_same⟩
  have z2 := z.2
  rw [e0] at z2
  have : xs = [] := List.eq_nil_of_length_eq_zero (by omega)
  subst this
  exact h _ _ (.refl H) ha
/-- rows + (w,) -/
theorem app_bad {t : Addr} (hv : Mx H v R) (hR : R.length ≤ 100) (hr : ∀ r ∈ R, r.length ≤ 1000) (hw : BadRow q p n H w) (ht : H t = none) (h : ∀ H' c, Ext TT [] H H' → BadMat q p n H' c → Q c H') : rCatA K v (.ref t) (upd H t (.tup [w])) Q := by
  obtain ⟨a, vs, rfl, ha, pr⟩ := hv
  have x : Ext TT [] H (upd H t (.tup [w])) := .new ht
  refine cat_t (TT := TT) (x.tup _ _ ha) upd_same (by rw [pr.length]; simp; omega) fun H' c x2 hc => ?_
  have x3 := x.trans x2
  refine h H' _ x3 (.inr (.inr ⟨c, _, rfl, hc, by rw [List.length_append, pr.length]; simp; omega, fun y hy => ?_, w, by simp, hw.mono (x3.up (M := [q]))⟩))
  rcases List.mem_append.mp hy with e | e
  · exact (rows_t1 (q := q) pr hr y e).mono (x3.up (M := [q]))
  · rw [List.mem_singleton.mp e]; exact hw.t1.mono (x3.up (M := [q]))
end
end K17
end

section
set_option linter.all false
set_option maxRecDepth 100000
set_option maxHeartbeats 2000000
namespace K17
open PySem PySem.Spec PyProof.Rows L2 G17 M17
open GxR (TabG Tabbed)
/-- a list of values, its length n, made behind H0 -/
def RV (q : Addr) (H0 : Hp) (n : Nat) (H : Hp) (v : V) : Prop := ∃ b xs, v = .ref b ∧ b ≠ q ∧ H0 b = none ∧ H b = some (.lst xs) ∧ xs.length = n ∧ ∀ y ∈ xs, Sc y
theorem RV.mono {T : List Addr} {q : Addr} {H0 H H' : Hp} {n : Nat} {v : V} (h : RV q H0 n H v) (x : Ext T [q] H H') : RV q H0 n H' v := let ⟨b, xs, e, hq, h0, h, r⟩ := h; ⟨b, xs, e, hq, h0, x.lstq hq h, r⟩
def TupSc (H : Hp) (w : V) : Prop := ∃ a xs, w = .ref a ∧ H a = some (.tup xs) ∧ xs.length ≤ 1000 ∧ ∀ y ∈ xs, Sc y
def BadTup (p : Int) (H : Hp) (w : V) : Prop := ∃ a xs, w = .ref a ∧ H a = some (.tup xs) ∧ xs.length ≤ 1000 ∧ (∀ y ∈ xs, Sc y) ∧ ∃ y ∈ xs, letB y p = false
theorem sc_ref {a : Addr} : ¬ Sc (.ref a) := fun h => by
  rcases h with h | ⟨_, h⟩ | ⟨_, h⟩ | ⟨_, h⟩ <;> cases h
theorem pickN {xs : List V} {r : Int} (h0 : 0 ≤ r) (h1 : r < ((xs.length : Nat) : Int)) : ∃ k : Nat, ∃ v, xs[k]? = some v ∧ L2.atI xs r = some v := by
  obtain ⟨k, rfl⟩ := Int.eq_ofNat_of_zero_le h0
  have hk : k < xs.length := by omega
  exact ⟨k, xs[k], List.getElem?_eq_getElem hk, atI_nat (List.getElem?_eq_getElem hk)⟩
section
variable {P : Program} {w : World} {K : PySem.W.Frag} {mg : Str → Option Value} {base : Heap} {TT : List Addr}
theorem sc_spoil : FnScope ["_law_pool_here", "_law_p", "_law_rows", "_law_columns", "_law_row", "_law_k", "_law_one"] ["_law_pool_here", "_law_p", "_law_rows", "_law_columns"] (defScope (topS 57)) := ⟨rfl, rfl, rfl, by decide +kernel, rfl, by decide +kernel, by decide +kernel⟩
def sp_spoil (TT : List Addr) : Sp := fun vs H Q _ => ∃ q v p n R, vs = [.ref q, .int p, v, .int ((n : Nat) : Int)] ∧ isP p ∧ 1 ≤ n ∧ n ≤ 5 ∧ R.length ≤ 50 ∧ OkM p n R ∧ Mx H v R ∧ PoolAt H q ∧ ∀ H' y, Ext TT [q] H H' → PoolAt H' q → BadMat q p n H' y → Q y H'
theorem c_spoil (F : ∃ f fd, FunAt K mg "_law_spoilt" "_law_spoilt" (topS 57) f fd) (T : Bl K mg) (C_law_draw : Cal P w K mg base CX0 "_law_draw" 1 ["_law_pool_here", "_law_many"] (sp_draw TT)) : Cal P w K mg base CX0 "_law_spoilt" 2 ["_law_pool_here", "_law_p", "_law_rows", "_law_columns"] (sp_spoil TT) := by
  have SC := sc_spoil
  refine cal_of F sc_spoil (fun _ _ _ _ _ _ us hl => match us, hl with | [_, _, _, _], _ => rfl) (fun vs H Q E h => by obtain ⟨q, v, p, n, R, rfl, _⟩ := h; rfl) fun f cdv A' outer s H vs Q E hr h => ?_
  obtain ⟨q, v, p, n, R, rfl, hp, n1, n5, hR, ok, ⟨a, rvs, rfl, ha, pr⟩, hP, Qq⟩ := h
  refine ⟨_, (pss_cons (ps_setLc (i := 4) (own := [("_law_k", 5)]) (by rfl) SC.nd rfl rfl (sw_true rfl rfl rfl (by kernel_rfl)) (pi_range1 (by rfl) T.nrange (pa_cons (pv 3) pa_nil)) (blkOk_by (by kernel_rfl)) (by intro _ _ _ _ _; exact (pg_name (i := 5) SC.nd rfl (.inl rfl))) (by intro _ _ _ _ _; exact pts_nil) (by intro _ _ _ _ _; exact pe_int))
    (pss_cons (ps_set (i := 2) SC.nd rfl (.inl rfl) (pe_op op_cat (pe_lc (own := [("_law_one", 6)]) (by rfl) SC.nd (pi_tup (pv 2)) (blkOk_by (by kernel_rfl)) (by intro _ _ _ _ _; exact (pg_name (i := 6) SC.nd rfl (.inl rfl))) (by intro _ _ _ _ _; exact pts_nil) (by intro _ _ _ _ _; exact (pe_callTy (call_list_ofK (K := K) rfl) (by rfl) T.nlist (by decide +kernel) (pa_cons (pv 6) pa_nil)))) (pe_lst (pa_cons (pv 4) pa_nil))))
    (pss_cons (ps_set (i := 6) SC.nd rfl (.inl rfl) (pe_ix ix_list (pv 2) (pe_cal (E := E0) C_law_draw hr (by decide) (by rfl) pass0 (pa_cons (pv 0) (pa_cons (pe_callB call_len_seq (by rfl) T.nlen (by decide +kernel) (pa_cons (pv 2) pa_nil)) pa_nil))) (fun _ _ => rfl)))
    (pss_cons (ps_asg (pe_ix ix_list (pe_lst (pa_cons (pv 1) (pa_cons (pe_un un_neg pe_int) (pa_cons pe_bl (pa_cons pe_non (pa_cons pe_str (pa_cons (pe_op op_add (pv 1) pe_int) pa_nil))))))) (pe_cal (E := E0) C_law_draw hr (by decide) (by rfl) pass0 (pa_cons (pv 0) (pa_cons pe_int pa_nil))) (fun _ _ => rfl)) (pg_sub (pv 6) (pe_cal (E := E0) C_law_draw hr (by decide) (by rfl) pass0 (pa_cons (pv 0) (pa_cons (pv 3) pa_nil))) set_list))
    (pss_one (ps_ret (pe_callTy call_tuple_of (by rfl) T.ntuple (by decide +kernel) (pa_cons (pe_lc (own := [("_law_one", 6)]) (by rfl) SC.nd (pi_list (pv 2)) (blkOk_by (by kernel_rfl)) (by intro _ _ _ _ _; exact (pg_name (i := 6) SC.nd rfl (.inl rfl))) (by intro _ _ _ _ _; exact pts_nil) (by intro _ _ _ _ _; exact (pe_callTy (call_tuple_ofK (K := K) rfl) (by rfl) T.ntuple (by decide +kernel) (pa_cons (pv 6) pa_nil)))) pa_nil)))))))), ?_⟩
  have p5 := hp.five
  have p2 := hp.two
  have lR := pr.length
  refine ⟨_, rfl, ((n : Nat) : Int), rfl, by omega, by omega, fun D hD => lc_range (lo := 0) (n := n) (LW TT [q] D H (fun z => 0 ≤ z ∧ z < p)) (.start hD) (fun j H7 hj lw => ⟨rfl, yes (lw.push hD (not_pool hP hD) (.refl _) (z := 0) (by omega) (by omega))⟩) ?_⟩
  rintro H1 ⟨ns, d1, d2, d3, x1⟩
  have hDq : D ≠ q := fun z => not_pool hP hD (by rw [z]; simp)
  have hP1 := x1.poolAt hP
  refine ⟨_, rfl, a, rfl, ⟨_, sqt (x1.tup _ _ ha)⟩, fun D2 hD2 => lc_tup (fun i H' => (∃ vs, H' D2 = some (.lst vs) ∧ vs.length = i ∧ ∀ x ∈ vs, RV q H n H' x ∧ x ≠ .ref D2) ∧ Ext TT [q] H1 H') ⟨⟨[], upd_same, rfl, fun x hx => by simp at hx⟩, .new hD2⟩ (fun i H' _ h => sqt ((x1.trans h.2).tup _ _ ha)) ?_ ?_⟩
  · rintro i x H' hx ⟨⟨vs, g1, g2, g3⟩, x2⟩
    obtain ⟨r, hr', ⟨b, rfl, hb⟩⟩ := paired_get pr hx
    have orr := ok r (List.mem_of_getElem? hr')
    have hi : i < rvs.length := (List.getElem?_eq_some_iff.mp hx).1
    refine ⟨rfl, yes ⟨_, rfl, b, _, rfl, .inr (sqt ((x1.trans x2).tup _ _ hb)), fun l hl => ?_⟩⟩
    have nl : D2 ≠ l := fun z => by rw [z, hl] at g1; cases g1
    have hlq : l ≠ q := fun z => not_pool (x2.poolAt hP1) hl (by rw [z]; simp)
    have xl := Ext.new (T := TT) (M := [q]) (o := .lst (r.map V.int)) hl
    have g1' : upd H' l (.lst (r.map V.int)) D2 = some (.lst vs) := by rw [upd_ne nl]; exact g1
    refine ⟨vs, g1', by rw [g2]; exact lz1000 (by omega), ⟨vs ++ [.ref l], upd_same, by rw [List.length_append, g2]; rfl, fun y hy => ?_⟩, (x2.trans xl).mut hD2⟩
    rcases List.mem_append.mp hy with e | e
    · obtain ⟨⟨c, xs, rfl, hcq, hc0, hc, r2⟩, hne⟩ := g3 y e
      have ncd : c ≠ D2 := fun z => hne (by rw [z])
      have ncl : c ≠ l := fun z => by rw [z, hl] at hc; cases hc
      exact ⟨⟨c, xs, rfl, hcq, hc0, by rw [upd_ne ncd, upd_ne ncl]; exact hc, r2⟩, hne⟩
    · rw [List.mem_singleton.mp e]
      exact ⟨⟨l, _, rfl, hlq, (x1.trans x2).dom _ hl, by rw [upd_ne (Ne.symm nl)]; exact upd_same, by rw [List.length_map]; exact orr.1, sc_ints r⟩, fun z => nl (V.ref.inj z).symm⟩
  · rintro H2 ⟨⟨vs, g1, g2, g3⟩, x2⟩
    have hP2 := x2.poolAt hP1
    have dD : H2 D = some (.lst (ns.map V.int)) := x2.lstq hDq d1
    refine ⟨_, rfl, by show 1 ≤ sizeLine; decide, fun t ht => ?_⟩
    have xt := Ext.new (T := TT) (M := [q]) (o := .lst [.ref D]) ht
    have hD2q : D2 ≠ q := fun z => not_pool hP1 hD2 (by rw [z]; simp)
    refine ⟨D2, t, vs, _, rfl, rfl, xt.lstq hD2q g1, upd_same, sz1000 (by simp; omega), fun rl hrl => ?_⟩
    have xr := Ext.new (T := TT) (M := [q]) (o := .lst (vs ++ [.ref D])) hrl
    have hrlq : rl ≠ q := fun z => not_pool (xt.poolAt hP2) hrl (by rw [z]; simp)
    have x23 := xt.trans xr
    have x13 := (x1.trans x2).trans x23
    have hrl3 : upd (upd H2 t (.lst [.ref D])) rl (.lst (vs ++ [.ref D])) rl = some (.lst (vs ++ [.ref D])) := upd_same
    have all3 : ∀ x ∈ vs ++ [.ref D], RV q H n (upd (upd H2 t (.lst [.ref D])) rl (.lst (vs ++ [.ref D]))) x := by
      intro x hx
      rcases List.mem_append.mp hx with e | e
      · exact (g3 x e).1.mono x23
      · rw [List.mem_singleton.mp e]
        exact ⟨D, _, rfl, hDq, hD, x23.lstq hDq dD, by rw [List.length_map]; exact d2, sc_ints ns⟩
    have hmemD : V.ref D ∈ vs ++ [.ref D] := by simp
    have hlen : (vs ++ [V.ref D]).length ≤ 51 := by simp; omega
    have hlen1 : 1 ≤ (vs ++ [V.ref D]).length := by simp
    generalize vs ++ [V.ref D] = rw0 at *
    generalize upd (upd H2 t (.lst [.ref D])) rl (.lst rw0) = H3 at *
    have hP3 := x13.poolAt hP
    refine ⟨_, rfl, _, rfl, _, rfl, rl, _, rfl, .inl (sql hrl3), q, _, rfl, hP3, by omega, fun H4 r4 x4 hP4 r0 r1 => ?_⟩
    obtain ⟨k0, z, hz, ez⟩ := pickN r0 r1
    have hrl4 := x4.lstq hrlq hrl3
    refine ⟨rl, _, r4, z, rfl, rfl, sql hrl4, ez, ?_⟩
    obtain ⟨b, xs, rfl, hbq, hb0, hb, hbl, hbs⟩ := (all3 z (List.mem_of_getElem? hz)).mono x4
    have hbrl : b ≠ rl := fun e => by
      rw [e, hrl4] at hb
      have e2 : rw0 = xs := by injection hb with h1; injection h1
      rw [e2] at hmemD
      exact sc_ref (hbs _ hmemD)
    refine ⟨_, rfl, 1, rfl, _, rfl, _, _, rfl, rfl, by show 6 ≤ sizeLine; decide, fun t5 ht5 => ?_⟩
    have x5 := Ext.new (T := TT) (M := [q]) (o := .lst [.int p, .int (-1), .bl true, .non, .str "0", .int (p + 7)]) ht5
    have ht5q : t5 ≠ q := fun z => not_pool hP4 ht5 (by rw [z]; simp)
    refine ⟨_, rfl, q, 6, rfl, x5.poolAt hP4, by decide, fun H6 r6 x6 hP6 s0 s1 => ?_⟩
    obtain ⟨y, hy, ey⟩ := pickV (xs := [.int p, .int (-1), .bl true, .non, .str "0", .int (p + 7)]) s0 s1
    have hy' : Sc y ∧ letB y p = false := by
      simp only [List.mem_cons, List.not_mem_nil, or_false] at hy
      rcases hy with rfl | rfl | rfl | rfl | rfl | rfl
      · exact ⟨sc_int _, decide_eq_false (by omega)⟩
      · exact ⟨sc_int _, decide_eq_false (show ¬ ((0 : Int) ≤ -1 ∧ (-1 : Int) < p) by omega)⟩
      · exact ⟨sc_bl _, rfl⟩
      · exact ⟨sc_non, rfl⟩
      · exact ⟨sc_str _, rfl⟩
      · exact ⟨sc_int _, decide_eq_false (by omega)⟩
    refine ⟨t5, _, r6, y, rfl, rfl, sql (x6.lstq ht5q upd_same), ey, ?_⟩
    refine ⟨_, rfl, _, rfl, _, rfl, q, n, rfl, hP6, by omega, fun H7 c x7 hP7 c0 c1 => ?_⟩
    obtain ⟨c, rfl⟩ := Int.eq_ofNat_of_zero_le c0
    have x47 := (x5.trans x6).trans x7
    have hb7 := x47.lstq hbq hb
    have hcl : c < xs.length := by omega
    refine ⟨b, xs, (c : Int), c, rfl, rfl, hb7, ixNat hcl, ?_⟩
    have x8 : Ext TT [q] H (upd H7 b (.lst (xs.set c y))) := (((x13.trans x4).trans x47)).mut hb0
    have hrl8 : upd H7 b (.lst (xs.set c y)) rl = some (.lst rw0) := by rw [upd_ne hbrl.symm]; exact x47.lstq hrlq hrl4
    have all8 : ∀ x ∈ rw0, ∃ d ws, x = .ref d ∧ d ≠ q ∧ upd H7 b (.lst (xs.set c y)) d = some (.lst ws) ∧ ws.length = n ∧ ∀ y ∈ ws, Sc y := by
      intro x hx
      obtain ⟨d, ws, rfl, hdq, hd0, hd, hdl, hds⟩ := ((all3 x hx).mono x4).mono x47
      by_cases e : d = b
      · refine ⟨d, xs.set c y, rfl, hdq, by rw [e]; exact upd_same, by rw [List.length_set]; exact hbl, fun y2 hy2 => ?_⟩
        rcases List.mem_or_eq_of_mem_set hy2 with h | h
        · exact hbs _ h
        · rw [h]; exact hy'.1
      · exact ⟨d, ws, rfl, hdq, by rw [upd_ne e]; exact hd, hdl, hds⟩
    have bad8 : ∃ y' ∈ xs.set c y, letB y' p = false := ⟨y, List.mem_of_getElem? (i := c) (by rw [List.getElem?_set_self hcl]), hy'.2⟩
    have sc8 : ∀ y' ∈ xs.set c y, Sc y' := fun y' h' => (List.mem_or_eq_of_mem_set h').elim (hbs _) (fun e => by rw [e]; exact hy'.1)
    have hb8 : upd H7 b (.lst (xs.set c y)) b = some (.lst (xs.set c y)) := upd_same
    have hl8 : (xs.set c y).length ≤ 1000 := by rw [List.length_set, hbl]; omega
    generalize upd H7 b (.lst (xs.set c y)) = H8 at *
    have hP8 := x8.poolAt hP
    refine ⟨_, rfl, rl, rfl, ⟨_, sql hrl8⟩, fun D9 hD9 => lc_list (fun i H' => ∃ ws, H' D9 = some (.lst ws) ∧ ws.length = i ∧ (∀ w ∈ ws, TupSc H' w) ∧ (k0 < i → ∃ w ∈ ws, BadTup p H' w) ∧ Ext TT [q] H8 H') ⟨[], upd_same, rfl, fun w hw => by simp at hw, fun h => absurd h (Nat.not_lt_zero _), .new hD9⟩ (fun i H' _ h => sql (h.choose_spec.2.2.2.2.lstq hrlq hrl8)) ?_ ?_⟩
    · rintro i x H9 hx ⟨ws, w1, w2, w3, w4, x9⟩
      obtain ⟨d, xs', rfl, hdq, hd, hdl, hds⟩ := all8 x (List.mem_of_getElem? hx)
      have hi : i < rw0.length := (List.getElem?_eq_some_iff.mp hx).1
      refine ⟨rfl, yes ⟨_, rfl, d, xs', rfl, .inl ⟨sql (x9.lstq hdq hd), fun l hl => ?_⟩⟩⟩
      have nl : D9 ≠ l := fun z => by rw [z, hl] at w1; cases w1
      have w1' : upd H9 l (.tup xs') D9 = some (.lst ws) := by rw [upd_ne nl]; exact w1
      have xl := Ext.new (T := TT) (M := [q]) (o := .tup xs') hl
      have up : ∀ {a ys}, H9 a = some (.tup ys) → upd (upd H9 l (.tup xs')) D9 (.lst (ws ++ [.ref l])) a = some (.tup ys) := fun h => tup_upd w1' (fun xs z => by cases z) (xl.tup _ _ h)
      have hl' : upd (upd H9 l (.tup xs')) D9 (.lst (ws ++ [.ref l])) l = some (.tup xs') := tup_upd w1' (fun xs z => by cases z) upd_same
      refine ⟨ws, w1', by rw [w2]; exact lz1000 (by omega), ws ++ [.ref l], upd_same, by rw [List.length_append, w2]; rfl, fun w hw => ?_, fun hk => ?_, (x9.trans xl).mut hD9⟩
      · rcases List.mem_append.mp hw with e | e
        · obtain ⟨a, ys, e1, e2, e3⟩ := w3 w e
          exact ⟨a, ys, e1, up e2, e3⟩
        · rw [List.mem_singleton.mp e]
          exact ⟨l, xs', rfl, hl', by omega, hds⟩
      · by_cases e : k0 < i
        · obtain ⟨w, hw, a, ys, e1, e2, e3⟩ := w4 e
          exact ⟨w, List.mem_append_left _ hw, a, ys, e1, up e2, e3⟩
        · have ek : k0 = i := by omega
          rw [ek, hx] at hz
          have ed : d = b := V.ref.inj (Option.some.inj hz)
          rw [ed, hb8] at hd
          have e3 : xs.set c y = xs' := by injection hd with h1; injection h1
          exact ⟨.ref l, by simp, l, xs', rfl, hl', by omega, hds, by rw [← e3]; exact bad8⟩
    · rintro H9 ⟨ws, w1, w2, w3, w4, x9⟩
      refine ⟨D9, ws, rfl, .inl ⟨sql w1, fun l hl => ?_⟩⟩
      have xl := Ext.new (T := TT) (M := [q]) (o := .tup ws) hl
      obtain ⟨w, hw, a2, ys, e1, e2, e3, e4, e5⟩ := w4 (List.getElem?_eq_some_iff.mp hz).1
      refine Qq _ _ ((x8.trans x9).trans xl) (((x8.trans x9).trans xl).poolAt hP) (.inr (.inr ⟨l, ws, rfl, upd_same, by omega, fun x hx => ?_, w, hw, .inr (.inr ⟨a2, ys, e1, xl.tup _ _ e2, e3, e4, .inr e5⟩)⟩))
      obtain ⟨a, ys, f1, f2, f3, f4⟩ := w3 x hx
      exact .inr ⟨a, ys, f1, .inl (xl.tup _ _ f2), f3, f4⟩
end
end K17
end

section
set_option linter.all false
set_option maxRecDepth 100000
set_option maxHeartbeats 2000000
namespace K17
open PySem PySem.Spec PyProof.Rows L2 G17 M17
open GxR (TabG Tabbed)
section
variable {P : Program} {w : World} {K : PySem.W.Frag} {mg : Str → Option Value} {base : Heap} {TT : List Addr}
theorem sc_nomat : FnScope ["_law_pool_here", "_law_p", "_law_rows", "_law_size", "_law_row", "_law_bad", "_law_k"] ["_law_pool_here", "_law_p", "_law_rows", "_law_size"] (defScope (topS 58)) := ⟨rfl, rfl, rfl, by decide +kernel, rfl, by decide +kernel, by decide +kernel⟩
def sp_nomat (TT : List Addr) : Sp := fun vs H Q _ => ∃ q v p n R, vs = [.ref q, .int p, v, .int ((n : Nat) : Int)] ∧ isP p ∧ 1 ≤ n ∧ n ≤ 5 ∧ R.length ≤ 50 ∧ OkM p n R ∧ Mx H v R ∧ PoolAt H q ∧ ∀ H' y, Ext TT [q] H H' → PoolAt H' q → BadMat q p n H' y → Q y H'
theorem c_nomat (F : ∃ f fd, FunAt K mg "_law_no_matrix" "_law_no_matrix" (topS 58) f fd) (T : Bl K mg) (C_law_draw : Cal P w K mg base CX0 "_law_draw" 1 ["_law_pool_here", "_law_many"] (sp_draw TT)) (C_law_spoilt : Cal P w K mg base CX0 "_law_spoilt" 2 ["_law_pool_here", "_law_p", "_law_rows", "_law_columns"] (sp_spoil TT)) :
    Cal P w K mg base CX0 "_law_no_matrix" 3 ["_law_pool_here", "_law_p", "_law_rows", "_law_size"] (sp_nomat TT) := by
  have SC := sc_nomat
  refine cal_of F sc_nomat (fun _ _ _ _ _ _ us hl => match us, hl with | [_, _, _, _], _ => rfl) (fun vs H Q E h => by obtain ⟨q, v, p, n, R, rfl, _⟩ := h; rfl) fun f cdv A' outer s H vs Q E hr h => ?_
  obtain ⟨q, v, p, n, R, rfl, hp, n1, n5, hR, ok, hv, hP, Qq⟩ := h
  refine ⟨_, (pss_cons (ps_set (i := 4) SC.nd rfl (.inl rfl) (pe_callTy call_tuple_of (by rfl) T.ntuple (by decide +kernel) (pa_cons (pe_lc (own := [("_law_k", 6)]) (by rfl) SC.nd (pi_range1 (by rfl) T.nrange (pa_cons (pv 3) pa_nil)) (blkOk_by (by kernel_rfl)) (by intro _ _ _ _ _; exact (pg_name (i := 6) SC.nd rfl (.inl rfl))) (by intro _ _ _ _ _; exact pts_nil) (by intro _ _ _ _ _; exact pe_int)) pa_nil)))
    (pss_cons (ps_set (i := 5) SC.nd rfl (.inl rfl) (pe_lst (pa_cons pe_non (pa_cons (pe_callTy call_list_of (by rfl) T.nlist (by decide +kernel) (pa_cons (pv 2) pa_nil)) (pa_cons (pe_op op_catA (pv 2) (pe_tup (pa_cons (pe_op op_catA (pv 4) (pe_tup (pa_cons pe_int pa_nil))) pa_nil))) (pa_cons (pe_op op_catA (pv 2) (pe_tup (pa_cons (pe_slice sl_tupA (pv 4) (po_some pe_int) po_none) pa_nil))) (pa_cons (pe_op op_catA (pv 2) (pe_tup (pa_cons (pe_op op_catA (pe_slice sl_tupA (pv 4) po_none (po_some (pe_un un_neg pe_int))) (pe_tup (pa_cons (pv 1) pa_nil))) pa_nil))) (pa_cons (pe_tup (pa_cons (pe_callTy call_list_of (by rfl) T.nlist (by decide +kernel) (pa_cons (pv 4) pa_nil)) pa_nil)) (pa_cons pe_int pa_nil)))))))))
    (pss_cons (ps_set (i := 5) SC.nd rfl (.inl rfl) (pe_op op_cat (pv 5) (pe_lst (pa_cons pe_str (pa_cons pe_bl (pa_cons (pe_op op_catA (pv 2) (pe_tup (pa_cons (pe_op op_catA (pe_slice sl_tupA (pv 4) po_none (po_some (pe_un un_neg pe_int))) (pe_tup (pa_cons pe_bl pa_nil))) pa_nil))) (pa_cons (pe_op op_catA (pv 2) (pe_tup (pa_cons pe_non pa_nil))) (pa_cons (pe_tup (pa_cons (pe_tup pa_nil) pa_nil)) pa_nil))))))))
    (pss_cons (ps_if (pt_cmpR op_eq (pe_cal (E := E0) C_law_draw hr (by decide) (by rfl) pass0 (pa_cons (pv 0) (pa_cons pe_int pa_nil))) pe_int (nomark _)) (pss_one (ps_ret (pe_cal (E := E0) C_law_spoilt hr (by decide) (by rfl) pass0 (pa_cons (pv 0) (pa_cons (pv 1) (pa_cons (pv 2) (pa_cons (pv 3) pa_nil))))))) pss_nil)
    (pss_one (ps_ret (pe_ix ix_list (pv 5) (pe_cal (E := E0) C_law_draw hr (by decide) (by rfl) pass0 (pa_cons (pv 0) (pa_cons pe_int pa_nil))) (fun _ _ => rfl)))))))), ?_⟩
  have p5 := hp.five
  have p2 := hp.two
  have hR1 : R.length ≤ 100 := by omega
  have hRr : ∀ r ∈ R, r.length ≤ 1000 := fun r hr => by have := (ok r hr).1; omega
  refine ⟨_, rfl, ((n : Nat) : Int), rfl, by omega, by omega, fun D hD => lc_range (lo := 0) (n := n) (LW TT [q] D H (fun z => z = 0)) (.start hD) (fun j H7 hj lw => ⟨rfl, yes (lw.push hD (not_pool hP hD) (.refl _) (z := 0) rfl (by omega))⟩) ?_⟩
  rintro H1 ⟨ns, d1, d2, d3, x1⟩
  refine ⟨D, _, rfl, .inl ⟨sql d1, fun z hz => ?_⟩⟩
  -- the zeros
  have xz := Ext.new (T := TT) (M := [q]) (o := .tup (ns.map V.int)) hz
  have x2 := x1.trans xz
  have hz2 : upd H1 z (.tup (ns.map V.int)) z = some (.tup (ns.map V.int)) := upd_same
  generalize upd H1 z (.tup (ns.map V.int)) = H2 at *
  have hv2 := hv.mono x2
  have hP2 := x2.poolAt hP
  have scz : ∀ y ∈ ns.map V.int, Sc y := sc_ints ns
  have lz : (ns.map V.int).length = n := by rw [List.length_map]; exact d2
  generalize ns.map V.int = zs at *
  obtain ⟨a, rvs, rfl, ha, pr⟩ := hv2
  have hv2 : Mx H2 (.ref a) R := ⟨a, rvs, rfl, ha, pr⟩
  have lr := pr.length
  -- list(rows)
  refine ⟨_, rfl, a, rvs, rfl, .inr (sqt ha), fun l2 hl2 => ?_⟩
  have hl2q : l2 ≠ q := fun e => not_pool hP2 hl2 (by rw [e]; simp)
  have e2 : BadMat q p n (upd H2 l2 (.lst rvs)) (.ref l2) := .inr (.inl ⟨l2, rvs, rfl, hl2q, upd_same, by omega, fun x hx => (rows_t1 (q := q) pr hRr x hx).mono (Ext.new (T := TT) (M := [q]) hl2)⟩)
  have x3 := Ext.new (T := TT) (M := [q]) (o := .lst rvs) hl2
  generalize upd H2 l2 (.lst rvs) = H3 at *
  -- rows + (row + (0,),)
  refine ⟨_, rfl, _, rfl, by show 1 ≤ sizeLine; decide, fun t3 ht3 => cat_t (TT := TT) ((x3.trans (Ext.new (T := TT) (M := [q]) ht3)).tup _ _ hz2) upd_same (by show zs.length + 1 ≤ 2000; omega) fun H4 c3 y4 hc3 => ⟨by show 1 ≤ sizeLine; decide, fun t4 ht4 => ?_⟩⟩
  have x4 := x3.trans ((Ext.new (T := TT) (M := [q]) (o := .tup [.int 0]) ht3).trans y4.up)
  refine app_bad (TT := TT) (q := q) (p := p) (n := n) (hv2.mono x4) hR1 hRr (.inr (.inr ⟨c3, _, rfl, hc3, by rw [List.length_append]; show zs.length + 1 ≤ 1000; omega, fun y hy => (List.mem_append.mp hy).elim (scz y) (fun e => by rw [List.mem_singleton.mp e]; exact sc_int _), .inl (by rw [List.length_append]; show ((zs.length + 1 : Nat) : Int) ≠ n; omega)⟩)) ht4 fun H5 b3 y5 e3 => ?_
  have x5 := x4.trans (y5.up (M := [q]))
  have e2 := e2.mono ((Ext.new (T := TT) (M := [q]) (o := .tup [.int 0]) ht3).trans (y4.up.trans y5.up))
  -- rows + (row[1:],)
  refine ⟨_, rfl, _, rfl, 1, rfl, ?_⟩
  (dsimp only [tNoPart])
  refine slice_tl (TT := TT) (x5.tup _ _ hz2) fun H6 c4 y6 hc4 => ⟨by show 1 ≤ sizeLine; decide, fun t6 ht6 => ?_⟩
  have x6 := x5.trans (y6.up (M := [q]))
  refine app_bad (TT := TT) (q := q) (p := p) (n := n) (hv2.mono x6) hR1 hRr (.inr (.inr ⟨c4, _, rfl, hc4, by rw [List.length_drop]; omega, fun y hy => scz y (List.mem_of_mem_drop hy), .inl (by rw [List.length_drop, lz]; omega)⟩)) ht6 fun H7 b4 y7 e4 => ?_
  have x7 := x6.trans (y7.up (M := [q]))
  have e2 := e2.mono (y6.up.trans (y7.up (M := [q])))
  have e3 := e3.mono (y6.up.trans (y7.up (M := [q])))
  -- rows + (row[:-1] + (p,),)
  refine ⟨_, rfl, _, rfl, 1, rfl, -1, rfl, slice_init (TT := TT) (x7.tup _ _ hz2) fun H8 c5 y8 hc5 => ⟨_, rfl, by show 1 ≤ sizeLine; decide, fun t8 ht8 => cat_t (TT := TT) ((Ext.new (T := TT) (M := []) ht8).tup _ _ hc5) upd_same (by rw [List.length_take]; show _ + 1 ≤ 2000; omega) fun H9 c6 y9 hc6 => ⟨by show 1 ≤ sizeLine; decide, fun t9 ht9 => ?_⟩⟩⟩
  have x79 := (y8.up (M := [q])).trans ((Ext.new (T := TT) (M := [q]) (o := .tup [.int p]) ht8).trans y9.up)
  have x9 := x7.trans x79
  refine app_bad (TT := TT) (q := q) (p := p) (n := n) (hv2.mono x9) hR1 hRr (.inr (.inr ⟨c6, _, rfl, hc6, by rw [List.length_append, List.length_take]; show _ + 1 ≤ 1000; omega, fun y hy => (List.mem_append.mp hy).elim (fun e => scz y (List.mem_of_mem_take e)) (fun e => by rw [List.mem_singleton.mp e]; exact sc_int _), .inr ⟨.int p, by simp, decide_eq_false (by omega)⟩⟩)) ht9 fun H10 b5 y10 e5 => ?_
  have x10 := x9.trans (y10.up (M := [q]))
  have u10 := x79.trans (y10.up (M := [q]))
  have e2 := e2.mono u10
  have e3 := e3.mono u10
  have e4 := e4.mono u10
  -- (list(row),)
  refine ⟨_, rfl, z, zs, rfl, .inr (sqt (x10.tup _ _ hz2)), fun l6 hl6 => ⟨by show 1 ≤ sizeLine; decide, fun t10 ht10 => ?_⟩⟩
  have hP10 := x10.poolAt hP2
  have hl6q : l6 ≠ q := fun e => not_pool hP10 hl6 (by rw [e]; simp)
  have y11 := Ext.new (T := TT) (M := [q]) (o := .lst zs) hl6
  have y12 := Ext.new (T := TT) (M := [q]) (o := .tup [.ref l6]) ht10
  have hl6' : upd (upd H10 l6 (.lst zs)) t10 (.tup [.ref l6]) l6 = some (.lst zs) := y12.lstq hl6q upd_same
  have bl6 : BadRow q p n (upd (upd H10 l6 (.lst zs)) t10 (.tup [.ref l6])) (.ref l6) := .inr (.inl ⟨l6, zs, rfl, hl6q, hl6', by omega, scz⟩)
  have e6 : BadMat q p n (upd (upd H10 l6 (.lst zs)) t10 (.tup [.ref l6])) (.ref t10) := .inr (.inr ⟨t10, [.ref l6], rfl, upd_same, by show 1 ≤ 1000; decide, fun x hx => by rw [List.mem_singleton.mp hx]; exact bl6.t1, .ref l6, by simp, bl6⟩)
  have u12 := y11.trans y12
  have x12 := x10.trans u12
  have e2 := e2.mono u12
  have e3 := e3.mono u12
  have e4 := e4.mono u12
  have e5 := e5.mono u12
  generalize upd (upd H10 l6 (.lst zs)) t10 (.tup [.ref l6]) = H12 at *
  refine ⟨by show 7 ≤ sizeLine; decide, fun bl hbl => ?_⟩
  have y13 := Ext.new (T := TT) (M := [q]) (o := .lst [.non, .ref l2, b3, b4, b5, .ref t10, .int 7]) hbl
  have hblq : bl ≠ q := fun e => not_pool (x12.poolAt hP2) hbl (by rw [e]; simp)
  have hbl13 : upd H12 bl (.lst [.non, .ref l2, b3, b4, b5, .ref t10, .int 7]) bl = some (.lst [.non, .ref l2, b3, b4, b5, .ref t10, .int 7]) := upd_same
  have x13 := x12.trans y13
  have e2 := e2.mono y13
  have e3 := e3.mono y13
  have e4 := e4.mono y13
  have e5 := e5.mono y13
  have e6 := e6.mono y13
  generalize upd H12 bl (.lst [.non, .ref l2, b3, b4, b5, .ref t10, .int 7]) = H13 at *
  refine ⟨_, rfl, _, rfl, _, rfl, 1, rfl, -1, rfl, slice_init (TT := TT) (x13.tup _ _ hz2) fun H14 c7 y14 hc7 => ⟨by show 1 ≤ sizeLine; decide, fun t14 ht14 => cat_t (TT := TT) ((Ext.new (T := TT) (M := []) ht14).tup _ _ hc7) upd_same (by rw [List.length_take]; show _ + 1 ≤ 2000; omega) fun H15 c8 y15 hc8 => ⟨by show 1 ≤ sizeLine; decide, fun t15 ht15 => ?_⟩⟩⟩
  have x135 := (y14.up (M := [q])).trans ((Ext.new (T := TT) (M := [q]) (o := .tup [.bl true]) ht14).trans y15.up)
  have x15 := x13.trans x135
  refine app_bad (TT := TT) (q := q) (p := p) (n := n) (hv2.mono x15) hR1 hRr (.inr (.inr ⟨c8, _, rfl, hc8, by rw [List.length_append, List.length_take]; show _ + 1 ≤ 1000; omega, fun y hy => (List.mem_append.mp hy).elim (fun e => scz y (List.mem_of_mem_take e)) (fun e => by rw [List.mem_singleton.mp e]; exact sc_bl _), .inr ⟨.bl true, by simp, rfl⟩⟩)) ht15 fun H16 b10 y16 e10 => ?_
  have x16 := x15.trans (y16.up (M := [q]))
  -- rows + (None,)
  refine ⟨_, rfl, by show 1 ≤ sizeLine; decide, fun t16 ht16 => ?_⟩
  refine app_bad (TT := TT) (q := q) (p := p) (n := n) (hv2.mono x16) hR1 hRr (.inl sc_non) ht16 fun H17 b11 y17 e11 => ?_
  have x17 := x16.trans (y17.up (M := [q]))
  have e10 := e10.mono (y17.up (M := [q]))
  -- ((),)
  refine ⟨Nat.zero_le _, fun l8 hl8 => ⟨by show 1 ≤ sizeLine; decide, fun t17 ht17 => ?_⟩⟩
  have y18 := Ext.new (T := TT) (M := [q]) (o := .tup []) hl8
  have y19 := Ext.new (T := TT) (M := [q]) (o := .tup [.ref l8]) ht17
  have bl8 : BadRow q p n (upd (upd H17 l8 (.tup [])) t17 (.tup [.ref l8])) (.ref l8) := .inr (.inr ⟨l8, [], rfl, y19.tup _ _ upd_same, Nat.zero_le _, fun y hy => (by simp at hy), .inl (show ((0 : Nat) : Int) ≠ n by omega)⟩)
  have e12 : BadMat q p n (upd (upd H17 l8 (.tup [])) t17 (.tup [.ref l8])) (.ref t17) := .inr (.inr ⟨t17, [.ref l8], rfl, upd_same, by show 1 ≤ 1000; decide, fun x hx => by rw [List.mem_singleton.mp hx]; exact bl8.t1, .ref l8, by simp, bl8⟩)
  have u19 := y18.trans y19
  have e10 := e10.mono u19
  have e11 := e11.mono u19
  have x19 := x17.trans u19
  have u1319 := ((x135.trans (y16.up (M := [q]))).trans (y17.up (M := [q]))).trans u19
  generalize upd (upd H17 l8 (.tup [])) t17 (.tup [.ref l8]) = H19 at *
  refine ⟨by show 5 ≤ sizeLine; decide, fun bl2 hbl2 => ?_⟩
  have y20 := Ext.new (T := TT) (M := [q]) (o := .lst [.str "", .bl true, b10, b11, .ref t17]) hbl2
  refine ⟨bl, bl2, _, _, rfl, rfl, (u1319.trans y20).lstq hblq hbl13, upd_same, by show 12 ≤ sizeLine; decide, fun bb hbb => ?_⟩
  have y21 := Ext.new (T := TT) (M := [q]) (o := .lst ([.non, .ref l2, b3, b4, b5, .ref t10, .int 7] ++ [.str "", .bl true, b10, b11, .ref t17])) hbb
  have x21 := (x2.trans x19).trans (y20.trans y21)
  have hbbq : bb ≠ q := fun e => not_pool ((x2.trans (x19.trans y20)).poolAt hP) hbb (by rw [e]; simp)
  have u21 := u1319.trans (y20.trans y21)
  have all : ∀ v ∈ ([.non, .ref l2, b3, b4, b5, .ref t10, .int 7] ++ [.str "", .bl true, b10, b11, .ref t17] : List V), BadMat q p n (upd (upd H19 bl2 (.lst [.str "", .bl true, b10, b11, .ref t17])) bb (.lst ([.non, .ref l2, b3, b4, b5, .ref t10, .int 7] ++ [.str "", .bl true, b10, b11, .ref t17]))) v := by
    intro v hv
    simp only [List.cons_append, List.nil_append, List.mem_cons, List.not_mem_nil, or_false] at hv
    rcases hv with rfl | rfl | rfl | rfl | rfl | rfl | rfl | rfl | rfl | rfl | rfl | rfl
    · exact .inl sc_non
    · exact e2.mono u21
    · exact e3.mono u21
    · exact e4.mono u21
    · exact e5.mono u21
    · exact e6.mono u21
    · exact .inl (sc_int _)
    · exact .inl (sc_str _)
    · exact .inl (sc_bl _)
    · exact e10.mono (y20.trans y21)
    · exact e11.mono (y20.trans y21)
    · exact e12.mono (y20.trans y21)
  have hbb21 : upd (upd H19 bl2 (.lst [.str "", .bl true, b10, b11, .ref t17])) bb (.lst ([.non, .ref l2, b3, b4, b5, .ref t10, .int 7] ++ [.str "", .bl true, b10, b11, .ref t17])) bb = some (.lst ([.non, .ref l2, b3, b4, b5, .ref t10, .int 7] ++ [.str "", .bl true, b10, b11, .ref t17])) := upd_same
  have lall : ([.non, .ref l2, b3, b4, b5, .ref t10, .int 7] ++ [.str "", .bl true, b10, b11, .ref t17] : List V).length = 12 := rfl
  generalize ([.non, .ref l2, b3, b4, b5, .ref t10, .int 7] ++ [.str "", .bl true, b10, b11, .ref t17] : List V) = bads at *
  generalize upd (upd H19 bl2 (.lst [.str "", .bl true, b10, b11, .ref t17])) bb (.lst bads) = H21 at *
  refine ⟨_, rfl, q, 3, rfl, x21.poolAt hP, by decide, fun H22 r22 x22 hP22 _ _ => ?_⟩
  refine ⟨rfl, _, rfl, ite2 (fun _ => ?_) (fun _ => ?_)⟩
  · exact ⟨_, rfl, _, rfl, _, rfl, _, rfl, q, .ref a, p, n, R, rfl, hp, n1, n5, hR, ok, (hv.mono (x21.trans x22)), hP22, fun H23 y x23 hP23 hy => Qq _ _ ((x21.trans x22).trans x23) hP23 hy⟩
  · refine ⟨_, rfl, _, rfl, q, 12, rfl, hP22, by decide, fun H23 r23 x23 hP23 r0 r1 => ?_⟩
    obtain ⟨y, hy, ey⟩ := pickV (xs := bads) r0 (by rw [lall]; exact r1)
    exact ⟨bb, bads, r23, y, rfl, rfl, sql ((x22.trans x23).lstq hbbq hbb21), ey, Qq _ _ ((x21.trans x22).trans x23) hP23 ((all y hy).mono (x22.trans x23))⟩
theorem sc_odd : FnScope ["_law_pool_here", "_law_low", "_law_high", "_law_few", "_law_odd_here"] ["_law_pool_here", "_law_low", "_law_high"] (defScope (topS 48)) := ⟨rfl, rfl, rfl, by decide +kernel, rfl, by decide +kernel, by decide +kernel⟩
def sp_odd (TT : List Addr) : Sp := fun vs H Q _ => ∃ q m, vs = [.ref q, .int 0, .int m] ∧ PoolAt H q ∧ -1 ≤ m ∧ m ≤ 1000 ∧ ∀ H' y, Ext TT [q] H H' → PoolAt H' q → T2 q H' y → letB y (m + 1) = false → Q y H'
theorem c_odd (F : ∃ f fd, FunAt K mg "_law_odd" "_law_odd" (topS 48) f fd) (T : Bl K mg) (C_law_draw : Cal P w K mg base CX0 "_law_draw" 1 ["_law_pool_here", "_law_many"] (sp_draw TT)) : Cal P w K mg base CX0 "_law_odd" 2 ["_law_pool_here", "_law_low", "_law_high"] (sp_odd TT) := by
  have SC := sc_odd
  refine cal_of F sc_odd (fun _ _ _ _ _ _ us hl => match us, hl with | [_, _, _], _ => rfl) (fun vs H Q E h => by obtain ⟨q, m, rfl, _⟩ := h; rfl) fun f cdv A' outer s H vs Q E hr h => ?_
  obtain ⟨q, m, rfl, hP, m0, m1, Qq⟩ := h
  refine ⟨_, (pss_cons (ps_set (i := 3) SC.nd rfl (.inl rfl) (pe_cal (E := E0) C_law_draw hr (by decide) (by rfl) pass0 (pa_cons (pv 0) (pa_cons pe_int pa_nil))))
    (pss_cons (ps_set (i := 4) SC.nd rfl (.inl rfl) (pe_lst (pa_cons pe_non (pa_cons pe_bl (pa_cons pe_bl (pa_cons (pe_op op_sub (pv 1) pe_int) (pa_cons (pe_op op_sub (pe_op op_sub (pv 1) pe_int) (pv 3)) (pa_cons (pe_op op_add (pv 2) pe_int) (pa_cons (pe_op op_add (pe_op op_add (pv 2) pe_int) (pv 3)) (pa_cons (pe_op op_add (pe_op op_pow pe_int pe_int) (pv 2)) (pa_cons pe_str (pa_cons pe_str (pa_cons (pe_tup (pa_cons pe_int pa_nil)) (pa_cons (pe_lst (pa_cons pe_int pa_nil)) (pa_cons (pe_tup pa_nil) pa_nil)))))))))))))))
    (pss_cons (ps_expr (pe_bm PySem.F.plainAttrs_list PySem.F.slot_list_append PySem.F.type_list_append mt_append (pv 4) (pa_cons (pe_tup (pa_cons (pe_tup (pa_cons pe_int (pa_cons pe_int pa_nil))) (pa_cons (pe_lst (pa_cons pe_non (pa_cons pe_str pa_nil))) pa_nil))) pa_nil)))
    (pss_one (ps_ret (pe_ix ix_list (pv 4) (pe_cal (E := E0) C_law_draw hr (by decide) (by rfl) pass0 (pa_cons (pv 0) (pa_cons pe_int pa_nil))) (fun _ _ => rfl))))))), ?_⟩
  refine ⟨_, rfl, q, 900, rfl, hP, by decide, fun H1 few x1 hP1 f0 f1 => ?_⟩
  refine ⟨_, rfl, _, _, rfl, rfl, _, rfl, _, _, rfl, rfl, _, rfl, _, _, rfl, rfl, _, rfl, _, _, rfl, rfl, _, rfl, _, _, rfl, rfl, _, rfl, _, _, rfl, rfl, ?_⟩
  refine ⟨_, _, rfl, rfl, ⟨by decide, by decide, by decide⟩, _, rfl, _, _, rfl, rfl, by show 1 ≤ sizeLine; decide, fun t1 h1 => ⟨by show 1 ≤ sizeLine; decide, fun t2 h2 => ⟨Nat.zero_le _, fun t3 h3 => ⟨by show 13 ≤ sizeLine; decide, fun ol hol => ?_⟩⟩⟩⟩
  have hbig : (1 : Int) ≤ 10 ^ (30 : Int).toNat := by decide
  generalize (10 : Int) ^ (30 : Int).toNat = big at hbig ⊢
  have y1 := Ext.new (T := TT) (M := [q]) (o := .tup [.int 2]) h1
  have y2 := Ext.new (T := TT) (M := [q]) (o := .lst [.int 3]) h2
  have y3 := Ext.new (T := TT) (M := [q]) (o := .tup []) h3
  have ht2q : t2 ≠ q := fun e => not_pool (y1.poolAt hP1) h2 (by rw [e]; simp)
  have y12 := y1.trans y2
  have y123 := y12.trans y3
  have hP4 := y123.poolAt hP1
  have y4 := Ext.new (T := TT) (M := [q]) (o := .lst [.non, .bl true, .bl false, .int (0 - 1), .int (0 - 1 - few), .int (m + 1), .int (m + 1 + few), .int (big + m), .str "2", .str "", .ref t1, .ref t2, .ref t3]) hol
  have y14 := y123.trans y4
  have holq : ol ≠ q := fun e => not_pool hP4 hol (by rw [e]; simp)
  have d1 := y4.tup _ _ (y3.tup _ _ (y2.tup _ _ (upd_same (H := H1) (a := t1) (o := .tup [.int 2]))))
  have d2 := y4.lstq ht2q (y3.lstq ht2q (upd_same (H := upd H1 t1 (.tup [.int 2])) (a := t2) (o := .lst [.int 3])))
  have d3 := y4.tup _ _ (upd_same (H := upd (upd H1 t1 (.tup [.int 2])) t2 (.lst [.int 3])) (a := t3) (o := .tup []))
  have n2 : t2 ≠ ol := fun z => by
    have := y3.lstq ht2q (upd_same (H := upd H1 t1 (.tup [.int 2])) (a := t2) (o := .lst [.int 3]))
    have h0 := hol
    rw [← z] at h0
    rw [h0] at this
    cases this
  have hol4 : upd _ ol (.lst [.non, .bl true, .bl false, .int (0 - 1), .int (0 - 1 - few), .int (m + 1), .int (m + 1 + few), .int (big + m), .str "2", .str "", .ref t1, .ref t2, .ref t3]) ol = some (.lst [.non, .bl true, .bl false, .int (0 - 1), .int (0 - 1 - few), .int (m + 1), .int (m + 1 + few), .int (big + m), .str "2", .str "", .ref t1, .ref t2, .ref t3]) := upd_same (H := upd (upd (upd H1 t1 (.tup [.int 2])) t2 (.lst [.int 3])) t3 (.tup []))
  generalize upd (upd (upd (upd H1 t1 (.tup [.int 2])) t2 (.lst [.int 3])) t3 (.tup [])) ol (.lst [.non, .bl true, .bl false, .int (0 - 1), .int (0 - 1 - few), .int (m + 1), .int (m + 1 + few), .int (big + m), .str "2", .str "", .ref t1, .ref t2, .ref t3]) = H4 at *
  refine ⟨_, rfl, .inl ⟨rfl, _, sql hol4⟩, by show 2 ≤ sizeLine; decide, fun t4 h4 => ⟨by show 2 ≤ sizeLine; decide, fun t5 h5 => ⟨by show 2 ≤ sizeLine; decide, fun t6 h6 => ?_⟩⟩⟩
  have y5 := Ext.new (T := TT) (M := [q]) (o := .tup [.int 0, .int 1]) h4
  have y6 := Ext.new (T := TT) (M := [q]) (o := .lst [.non, .str "a"]) h5
  have y7 := Ext.new (T := TT) (M := [q]) (o := .tup [.ref t4, .ref t5]) h6
  have hP5 := (y5.poolAt (y14.poolAt hP1))
  have ht5q : t5 ≠ q := fun e => not_pool hP5 h5 (by rw [e]; simp)
  have y57 := (y5.trans y6).trans y7
  have d4 := y7.tup _ _ (y6.tup _ _ (upd_same (H := H4) (a := t4) (o := .tup [.int 0, .int 1])))
  have d5 := y7.lstq ht5q (upd_same (H := upd H4 t4 (.tup [.int 0, .int 1])) (a := t5) (o := .lst [.non, .str "a"]))
  have d6 : upd (upd (upd H4 t4 (.tup [.int 0, .int 1])) t5 (.lst [.non, .str "a"])) t6 (.tup [.ref t4, .ref t5]) t6 = some (.tup [.ref t4, .ref t5]) := upd_same
  have n5 : t5 ≠ ol := fun z => by
    have := y5.lstq holq hol4
    have h0 := h5
    rw [z] at h0
    rw [h0] at this
    cases this
  have hol7 := y57.lstq holq hol4
  have d1 := y57.tup _ _ d1
  have d2 := y57.lstq ht2q d2
  have d3 := y57.tup _ _ d3
  generalize upd (upd (upd H4 t4 (.tup [.int 0, .int 1])) t5 (.lst [.non, .str "a"])) t6 (.tup [.ref t4, .ref t5]) = H7 at *
  refine ⟨ol, _, _, rfl, rfl, hol7, by show 13 < sizeLine; decide, ?_⟩
  have nol : H1 ol = none := y123.dom _ hol
  have y17 := y14.trans y57
  have nt : ∀ xs, HO.lst [.non, .bl true, .bl false, .int (0 - 1), .int (0 - 1 - few), .int (m + 1), .int (m + 1 + few), .int (big + m), .str "2", .str "", .ref t1, .ref t2, .ref t3] ≠ .tup xs := fun xs z => by cases z
  have d1 := tup_upd (o' := .lst ([.non, .bl true, .bl false, .int (0 - 1), .int (0 - 1 - few), .int (m + 1), .int (m + 1 + few), .int (big + m), .str "2", .str "", .ref t1, .ref t2, .ref t3] ++ [.ref t6])) hol7 nt d1
  have d3 := tup_upd (o' := .lst ([.non, .bl true, .bl false, .int (0 - 1), .int (0 - 1 - few), .int (m + 1), .int (m + 1 + few), .int (big + m), .str "2", .str "", .ref t1, .ref t2, .ref t3] ++ [.ref t6])) hol7 nt d3
  have d4 := tup_upd (o' := .lst ([.non, .bl true, .bl false, .int (0 - 1), .int (0 - 1 - few), .int (m + 1), .int (m + 1 + few), .int (big + m), .str "2", .str "", .ref t1, .ref t2, .ref t3] ++ [.ref t6])) hol7 nt d4
  have d6 := tup_upd (o' := .lst ([.non, .bl true, .bl false, .int (0 - 1), .int (0 - 1 - few), .int (m + 1), .int (m + 1 + few), .int (big + m), .str "2", .str "", .ref t1, .ref t2, .ref t3] ++ [.ref t6])) hol7 nt d6
  have d2 : upd H7 ol (.lst ([.non, .bl true, .bl false, .int (0 - 1), .int (0 - 1 - few), .int (m + 1), .int (m + 1 + few), .int (big + m), .str "2", .str "", .ref t1, .ref t2, .ref t3] ++ [.ref t6])) t2 = some (.lst [.int 3]) := by rw [upd_ne n2]; exact d2
  have d5 : upd H7 ol (.lst ([.non, .bl true, .bl false, .int (0 - 1), .int (0 - 1 - few), .int (m + 1), .int (m + 1 + few), .int (big + m), .str "2", .str "", .ref t1, .ref t2, .ref t3] ++ [.ref t6])) t5 = some (.lst [.non, .str "a"]) := by rw [upd_ne n5]; exact d5
  have x8 : Ext TT [q] H (upd H7 ol (.lst ([.non, .bl true, .bl false, .int (0 - 1), .int (0 - 1 - few), .int (m + 1), .int (m + 1 + few), .int (big + m), .str "2", .str "", .ref t1, .ref t2, .ref t3] ++ [.ref t6]))) := x1.trans (y17.mut nol)
  have hol8 : upd H7 ol (.lst ([.non, .bl true, .bl false, .int (0 - 1), .int (0 - 1 - few), .int (m + 1), .int (m + 1 + few), .int (big + m), .str "2", .str "", .ref t1, .ref t2, .ref t3] ++ [.ref t6])) ol = some (.lst ([.non, .bl true, .bl false, .int (0 - 1), .int (0 - 1 - few), .int (m + 1), .int (m + 1 + few), .int (big + m), .str "2", .str "", .ref t1, .ref t2, .ref t3] ++ [.ref t6])) := upd_same
  generalize upd H7 ol (.lst ([.non, .bl true, .bl false, .int (0 - 1), .int (0 - 1 - few), .int (m + 1), .int (m + 1 + few), .int (big + m), .str "2", .str "", .ref t1, .ref t2, .ref t3] ++ [.ref t6])) = H8 at *
  refine ⟨_, rfl, _, rfl, q, 14, rfl, x8.poolAt hP, by decide, fun H9 r9 x9 hP9 r0 r1 => ?_⟩
  obtain ⟨y, hy, ey⟩ := pickV (xs := [.non, .bl true, .bl false, .int (0 - 1), .int (0 - 1 - few), .int (m + 1), .int (m + 1 + few), .int (big + m), .str "2", .str "", .ref t1, .ref t2, .ref t3] ++ [.ref t6]) r0 (by show r9 < ((14 : Nat) : Int); exact r1)
  refine ⟨ol, _, r9, y, rfl, rfl, sql (x9.lstq holq hol8), ey, ?_⟩
  have hy' : T2 q H8 y ∧ letB y (m + 1) = false := by
    simp only [List.cons_append, List.nil_append, List.mem_cons, List.not_mem_nil, or_false] at hy
    rcases hy with rfl | rfl | rfl | rfl | rfl | rfl | rfl | rfl | rfl | rfl | rfl | rfl | rfl | rfl
    · exact ⟨.inl sc_non, rfl⟩
    · exact ⟨.inl (sc_bl _), rfl⟩
    · exact ⟨.inl (sc_bl _), rfl⟩
    · exact ⟨.inl (sc_int _), decide_eq_false (show ¬ (0 ≤ (0 - 1 : Int) ∧ (0 - 1 : Int) < m + 1) by omega)⟩
    · exact ⟨.inl (sc_int _), decide_eq_false (show ¬ (0 ≤ 0 - 1 - few ∧ 0 - 1 - few < m + 1) by omega)⟩
    · exact ⟨.inl (sc_int _), decide_eq_false (show ¬ (0 ≤ m + 1 ∧ m + 1 < m + 1) by omega)⟩
    · exact ⟨.inl (sc_int _), decide_eq_false (show ¬ (0 ≤ m + 1 + few ∧ m + 1 + few < m + 1) by omega)⟩
    · exact ⟨.inl (sc_int _), decide_eq_false (show ¬ (0 ≤ big + m ∧ big + m < m + 1) by omega)⟩
    · exact ⟨.inl (sc_str _), rfl⟩
    · exact ⟨.inl (sc_str _), rfl⟩
    · exact ⟨.inr ⟨t1, [.int 2], rfl, .inl d1, by show 1 ≤ 1000; decide, fun y hy => by rw [List.mem_singleton.mp hy]; exact .inl (sc_int _)⟩, rfl⟩
    · exact ⟨.inr ⟨t2, [.int 3], rfl, .inr ⟨ht2q, d2⟩, by show 1 ≤ 1000; decide, fun y hy => by rw [List.mem_singleton.mp hy]; exact .inl (sc_int _)⟩, rfl⟩
    · exact ⟨.inr ⟨t3, [], rfl, .inl d3, Nat.zero_le _, fun y hy => by simp at hy⟩, rfl⟩
    · refine ⟨.inr ⟨t6, [.ref t4, .ref t5], rfl, .inl d6, by show 2 ≤ 1000; decide, fun y hy => ?_⟩, rfl⟩
      simp only [List.mem_cons, List.not_mem_nil, or_false] at hy
      rcases hy with rfl | rfl
      · refine .inr ⟨t4, [.int 0, .int 1], rfl, .inl d4, by show 2 ≤ 1000; decide, fun y hy => ?_⟩
        simp only [List.mem_cons, List.not_mem_nil, or_false] at hy
        rcases hy with rfl | rfl <;> exact sc_int _
      · refine .inr ⟨t5, [.non, .str "a"], rfl, .inr ⟨ht5q, d5⟩, by show 2 ≤ 1000; decide, fun y hy => ?_⟩
        simp only [List.mem_cons, List.not_mem_nil, or_false] at hy
        rcases hy with rfl | rfl
        · exact sc_non
        · exact sc_str _
  exact Qq _ _ (x8.trans x9) hP9 (hy'.1.mono x9) hy'.2
end
end K17
end

section
set_option linter.all false
set_option maxRecDepth 100000
set_option maxHeartbeats 2000000
namespace K17
open PySem PySem.Spec PyProof.Rows L2 G17 M17
open GxR (TabG Tabbed)
def names16 : List Str := ["InvalidNumber", "InvalidMatrix", "InvalidAudience", "InvalidNet", "InvalidLot", "InvalidWord", "InvalidWords", "InvalidSignals", "InvalidLosses", "InvalidText", "InvalidLine", "UnknownWord", "TooMany", "Undefined", "NothingToUndo", "InvalidDeed"]
/-- what is asked of an error's class by the law -/
structure EK (K : PySem.W.Frag) (mg : Str → Option Value) (nm : Str) (C : Addr) : Prop where
  is : ExcC K C
  k : ∀ x ∈ names16, ∃ D, mg x = some (.ref D) ∧ PySem.W.kitOne K (.ref C) (.ref D) = some (decide (x = nm))
  say : ∃ D, mg "SayError" = some (.ref D) ∧ PySem.W.kitOne K (.ref C) (.ref D) = some true ∧ PySem.W.exmOne K (.ref C) (.ref D) = some true
  ve : PySem.W.kitOne K (.ref C) (.type "ValueError") = some true
/-- the bools of the law for nm -/
def bools (nm : Str) : List Bool := names16.map fun x => decide (x = nm)
def isBl (k : Bool) : Value → Bool
  | .bool b => b == k
  | _ => false
theorem bools_of : ∀ {bs : List Bool} {us : List Value}, Vals (bs.map V.bl) us → us = bs.map Value.bool
  | [], _, .nil => rfl
  | b :: bs, _, .cons r t => by
    cases r
    rw [bools_of t]; rfl
theorem count_bl (k : Bool) : ∀ bs : List Bool, (bs.map Value.bool).countP (isBl k) = bs.count k
  | [] => rfl
  | b :: bs => by
    rw [List.map_cons, List.countP_cons, List.count_cons, count_bl k bs]
    rfl
def rCntB : V → List V → Hp → VK → Prop := fun x xs H Q => ∃ (p : Addr) (bs : List Bool) (k : Bool), x = .ref p ∧ xs = [.bl k] ∧ H p = some (.lst (bs.map V.bl)) ∧ Q (.int ((bs.count k : Nat) : Int)) H
theorem mt_bcount {X : Cx} : MtR X "list.count" rCntB := by
  intro pins s σ H x xs v us Q I rx rxs h
  obtain ⟨p, bs, k, rfl, rfl, hs, q⟩ := h
  cases rx
  obtain ⟨u, rfl, ru⟩ := rxs.one
  cases ru
  obtain ⟨z, its, n, rv, ho⟩ := (show ObjOk X.prog X.w H s.heap p (.lst (bs.map V.bl)) from I.hok p _ hs)
  have e := bools_of rv
  refine call_meets PySem.F.slot_list_count ⟨_, ho, rfl⟩ PySem.F.entry_list_count (PySem.F.args_list_count_2 _ _)
    (SeqAt.list_countAt p its.toArray n none #[] (.bool k) (isBl k)) ⟨ho, fun y hy => ?_, ?_⟩
  · have hy' : y ∈ its := by simpa using hy
    rw [e] at hy'
    obtain ⟨b, _, rfl⟩ := List.mem_map.mp hy'
    exact SeqAt.EqAt.bool_bool b k
  · have ec : its.toArray.toList.countP (isBl k) = bs.count k := by
      rw [List.toList_toArray, e]; exact count_bl k bs
    refine ⟨.int (bs.count k : Nat), H, I.tok _, ⟨s.toks, ?_⟩, q⟩
    show Value.int ((its.toArray.toList.countP (isBl k) : Nat) : Int) s.toks = Value.int ((bs.count k : Nat) : Int) s.toks
    rw [ec]
/-- the handled error: its class C, its dict at dd -/
def ErrP (K : PySem.W.Frag) (mg : Str → Option Value) (q : Addr × Obj) (nm : Str) (C dd : Addr) (H : Hp) : Prop := EK K mg nm C ∧ Zc (.ref C) (some dd) q.2 ∧ (∃ vs, q.2.data = .fields vs) ∧ ∃ fs, H dd = some (.xd fs)
theorem xd_mono {T : List Addr} {H H' : Hp} {dd : Addr} {fs : List (Str × V)} (x : Ext T [] H H') (h : H dd = some (.xd fs)) : H' dd = some (.xd fs) := x.keep dd _ (by simp) h (fun ps z => by cases z)
section
variable {P : Program} {w : World} {K : PySem.W.Frag} {mg : Str → Option Value} {base : Heap} {TT : List Addr}
/-- THE RULE for a def of the text that is called while an error is handled -/
theorem calP_of {x nm : Str} {st : Stmt} {N ps : List Str} {k : Nat} {sp : Addr × Obj → Sp} (F : ∃ f fd, FunAt K mg x nm st f fd) (S : FnScope N ps (defScope st))
    (hb : ∀ (kV doc pm : Value) (an : Option Addr) (cdv ct : Value) (us : List Value), us.length = ps.length → bindArgs (PySem.W.fnOf nm nm (defArgs st) (defBody st) (defScope st) .none kV doc pm an cdv ct) ⟨us, []⟩ = pure (ps.zip us))
    (len : ∀ q vs H Q E, sp q vs H Q E → vs.length = ps.length)
    (hbody : ∀ (f : Addr) (cdv : Value) (A : Around) (outer : List Env) (s : Shared) (H : Hp) (vs : List V) (Q : VK) (E : XK) (q : Addr × Obj), A.handled = some (.ref q.1) → L2H.RoomH k (A.deeper (envOfC nm (defScope st) s.heap.objs.size f cdv)) → sp q vs H Q E →
      ∃ t, PSs (L2H.cxH CX0 P w K mg base N nm (defScope st) f cdv A outer s H E q) (defBody st) t ∧ t { nx := fun _ H' => Q .non H', rt := Q } (L2.start N vs) H) : CalP P w K mg base x (k + 1) ps sp := by
  obtain ⟨f, fd, F, hm⟩ := F
  exact ⟨f, fd, fn_ofP F S len fun cdv A outer s H vs Q E q hh hr h => hbody f cdv A outer s H vs Q E q hh hr h, hm, F.kp, F.bindsN hb⟩
theorem sc_kinds : FnScope ["_law_e", "_law_kinds_here"] ["_law_e"] (defScope (topS 46)) := ⟨rfl, rfl, rfl, by decide +kernel, rfl, by decide +kernel, by decide +kernel⟩
def sp_kinds (K : PySem.W.Frag) (mg : Str → Option Value) (TT : List Addr) : Addr × Obj → Sp := fun p vs H Q _ => ∃ nm C dd, vs = [.ref p.1] ∧ ErrP K mg p nm C dd H ∧ ∀ H' l, Ext TT [] H H' → H' l = some (.lst ((bools nm).map V.bl)) → Q (.ref l) H'
theorem c_kinds (F : ∃ f fd, FunAt K mg "_law_kinds" "_law_kinds" (topS 46) f fd) (T : Bl K mg) : CalP P w K mg base "_law_kinds" 1 ["_law_e"] (sp_kinds K mg TT) := by
  have SC := sc_kinds
  refine calP_of F sc_kinds (fun _ _ _ _ _ _ us hl => match us, hl with | [_], _ => rfl) (fun p vs H Q E h => by obtain ⟨nm, C, dd, rfl, _⟩ := h; rfl) fun f cdv A outer s H vs Q E p hh hr h => ?_
  obtain ⟨nm, C, dd, rfl, ⟨EKC, hz, hf, fs, hfs⟩, q⟩ := h
  obtain ⟨a0, g0, k0⟩ := EKC.k "InvalidNumber" (by simp [names16])
  obtain ⟨a1, g1, k1⟩ := EKC.k "InvalidMatrix" (by simp [names16])
  obtain ⟨a2, g2, k2⟩ := EKC.k "InvalidAudience" (by simp [names16])
  obtain ⟨a3, g3, k3⟩ := EKC.k "InvalidNet" (by simp [names16])
  obtain ⟨a4, g4, k4⟩ := EKC.k "InvalidLot" (by simp [names16])
  obtain ⟨a5, g5, k5⟩ := EKC.k "InvalidWord" (by simp [names16])
  obtain ⟨a6, g6, k6⟩ := EKC.k "InvalidWords" (by simp [names16])
  obtain ⟨a7, g7, k7⟩ := EKC.k "InvalidSignals" (by simp [names16])
  obtain ⟨a8, g8, k8⟩ := EKC.k "InvalidLosses" (by simp [names16])
  obtain ⟨a9, g9, k9⟩ := EKC.k "InvalidText" (by simp [names16])
  obtain ⟨a10, g10, k10⟩ := EKC.k "InvalidLine" (by simp [names16])
  obtain ⟨a11, g11, k11⟩ := EKC.k "UnknownWord" (by simp [names16])
  obtain ⟨a12, g12, k12⟩ := EKC.k "TooMany" (by simp [names16])
  obtain ⟨a13, g13, k13⟩ := EKC.k "Undefined" (by simp [names16])
  obtain ⟨a14, g14, k14⟩ := EKC.k "NothingToUndo" (by simp [names16])
  obtain ⟨a15, g15, k15⟩ := EKC.k "InvalidDeed" (by simp [names16])
  refine ⟨_, (pss_cons (ps_set (i := 1) SC.nd rfl (.inl rfl) (pe_lst (pa_cons (pe_callB (call_isP (D := C) (dd := dd) (q := p) EKC.is (List.mem_singleton.mpr rfl) hz hf) (by rfl) T.nisinstance (by decide +kernel) (pa_cons (pv 0) (pa_cons (pe_glob (v := .ref a0) (by rfl) g0 rfl) pa_nil))) (pa_cons (pe_callB (call_isP (D := C) (dd := dd) (q := p) EKC.is (List.mem_singleton.mpr rfl) hz hf) (by rfl) T.nisinstance (by decide +kernel) (pa_cons (pv 0) (pa_cons (pe_glob (v := .ref a1) (by rfl) g1 rfl) pa_nil))) (pa_cons (pe_callB (call_isP (D := C) (dd := dd) (q := p) EKC.is (List.mem_singleton.mpr rfl) hz hf) (by rfl) T.nisinstance (by decide +kernel) (pa_cons (pv 0) (pa_cons (pe_glob (v := .ref a2) (by rfl) g2 rfl) pa_nil))) pa_nil)))))
    (pss_cons (ps_set (i := 1) SC.nd rfl (.inl rfl) (pe_op op_cat (pv 1) (pe_lst (pa_cons (pe_callB (call_isP (D := C) (dd := dd) (q := p) EKC.is (List.mem_singleton.mpr rfl) hz hf) (by rfl) T.nisinstance (by decide +kernel) (pa_cons (pv 0) (pa_cons (pe_glob (v := .ref a3) (by rfl) g3 rfl) pa_nil))) (pa_cons (pe_callB (call_isP (D := C) (dd := dd) (q := p) EKC.is (List.mem_singleton.mpr rfl) hz hf) (by rfl) T.nisinstance (by decide +kernel) (pa_cons (pv 0) (pa_cons (pe_glob (v := .ref a4) (by rfl) g4 rfl) pa_nil))) (pa_cons (pe_callB (call_isP (D := C) (dd := dd) (q := p) EKC.is (List.mem_singleton.mpr rfl) hz hf) (by rfl) T.nisinstance (by decide +kernel) (pa_cons (pv 0) (pa_cons (pe_glob (v := .ref a5) (by rfl) g5 rfl) pa_nil))) pa_nil))))))
    (pss_cons (ps_set (i := 1) SC.nd rfl (.inl rfl) (pe_op op_cat (pv 1) (pe_lst (pa_cons (pe_callB (call_isP (D := C) (dd := dd) (q := p) EKC.is (List.mem_singleton.mpr rfl) hz hf) (by rfl) T.nisinstance (by decide +kernel) (pa_cons (pv 0) (pa_cons (pe_glob (v := .ref a6) (by rfl) g6 rfl) pa_nil))) (pa_cons (pe_callB (call_isP (D := C) (dd := dd) (q := p) EKC.is (List.mem_singleton.mpr rfl) hz hf) (by rfl) T.nisinstance (by decide +kernel) (pa_cons (pv 0) (pa_cons (pe_glob (v := .ref a7) (by rfl) g7 rfl) pa_nil))) (pa_cons (pe_callB (call_isP (D := C) (dd := dd) (q := p) EKC.is (List.mem_singleton.mpr rfl) hz hf) (by rfl) T.nisinstance (by decide +kernel) (pa_cons (pv 0) (pa_cons (pe_glob (v := .ref a8) (by rfl) g8 rfl) pa_nil))) pa_nil))))))
    (pss_cons (ps_set (i := 1) SC.nd rfl (.inl rfl) (pe_op op_cat (pv 1) (pe_lst (pa_cons (pe_callB (call_isP (D := C) (dd := dd) (q := p) EKC.is (List.mem_singleton.mpr rfl) hz hf) (by rfl) T.nisinstance (by decide +kernel) (pa_cons (pv 0) (pa_cons (pe_glob (v := .ref a9) (by rfl) g9 rfl) pa_nil))) (pa_cons (pe_callB (call_isP (D := C) (dd := dd) (q := p) EKC.is (List.mem_singleton.mpr rfl) hz hf) (by rfl) T.nisinstance (by decide +kernel) (pa_cons (pv 0) (pa_cons (pe_glob (v := .ref a10) (by rfl) g10 rfl) pa_nil))) (pa_cons (pe_callB (call_isP (D := C) (dd := dd) (q := p) EKC.is (List.mem_singleton.mpr rfl) hz hf) (by rfl) T.nisinstance (by decide +kernel) (pa_cons (pv 0) (pa_cons (pe_glob (v := .ref a11) (by rfl) g11 rfl) pa_nil))) pa_nil))))))
    (pss_cons (ps_set (i := 1) SC.nd rfl (.inl rfl) (pe_op op_cat (pv 1) (pe_lst (pa_cons (pe_callB (call_isP (D := C) (dd := dd) (q := p) EKC.is (List.mem_singleton.mpr rfl) hz hf) (by rfl) T.nisinstance (by decide +kernel) (pa_cons (pv 0) (pa_cons (pe_glob (v := .ref a12) (by rfl) g12 rfl) pa_nil))) (pa_cons (pe_callB (call_isP (D := C) (dd := dd) (q := p) EKC.is (List.mem_singleton.mpr rfl) hz hf) (by rfl) T.nisinstance (by decide +kernel) (pa_cons (pv 0) (pa_cons (pe_glob (v := .ref a13) (by rfl) g13 rfl) pa_nil))) (pa_cons (pe_callB (call_isP (D := C) (dd := dd) (q := p) EKC.is (List.mem_singleton.mpr rfl) hz hf) (by rfl) T.nisinstance (by decide +kernel) (pa_cons (pv 0) (pa_cons (pe_glob (v := .ref a14) (by rfl) g14 rfl) pa_nil))) pa_nil))))))
    (pss_cons (ps_expr (pe_bm PySem.F.plainAttrs_list PySem.F.slot_list_append PySem.F.type_list_append mt_append (pv 1) (pa_cons (pe_callB (call_isP (D := C) (dd := dd) (q := p) EKC.is (List.mem_singleton.mpr rfl) hz hf) (by rfl) T.nisinstance (by decide +kernel) (pa_cons (pv 0) (pa_cons (pe_glob (v := .ref a15) (by rfl) g15 rfl) pa_nil))) pa_nil)))
    (pss_one (ps_ret (pv 1))))))))), ?_⟩
  refine ⟨_, rfl, .ref a0, _, decide (("InvalidNumber" : Str) = nm), fs, rfl, (fun u hu => hu), k0, hfs, _, rfl, .ref a1, _, decide (("InvalidMatrix" : Str) = nm), fs, rfl, (fun u hu => hu), k1, hfs, _, rfl, .ref a2, _, decide (("InvalidAudience" : Str) = nm), fs, rfl, (fun u hu => hu), k2, hfs, by show 3 ≤ sizeLine; decide, fun l1 h1 => ?_⟩
  have y1 : Ext TT [] H _ := .new (o := .lst [.bl (decide (("InvalidNumber" : Str) = nm)), .bl (decide (("InvalidMatrix" : Str) = nm)), .bl (decide (("InvalidAudience" : Str) = nm))]) h1
  have f1 := xd_mono y1 hfs
  refine ⟨_, rfl, _, rfl, .ref a3, _, decide (("InvalidNet" : Str) = nm), fs, rfl, (fun u hu => hu), k3, f1, _, rfl, .ref a4, _, decide (("InvalidLot" : Str) = nm), fs, rfl, (fun u hu => hu), k4, f1, _, rfl, .ref a5, _, decide (("InvalidWord" : Str) = nm), fs, rfl, (fun u hu => hu), k5, f1, by show 3 ≤ sizeLine; decide, fun m2 hm2 => ?_⟩
  have z2 : Ext TT [] _ _ := .new (o := .lst [.bl (decide (("InvalidNet" : Str) = nm)), .bl (decide (("InvalidLot" : Str) = nm)), .bl (decide (("InvalidWord" : Str) = nm))]) hm2
  refine ⟨l1, m2, _, _, rfl, rfl, z2.lst upd_same, upd_same, by show 3 + 3 ≤ sizeLine; decide, fun l2 h2 => ?_⟩
  have w2 : Ext TT [] _ _ := .new (o := .lst [.bl (decide (("InvalidNumber" : Str) = nm)), .bl (decide (("InvalidMatrix" : Str) = nm)), .bl (decide (("InvalidAudience" : Str) = nm)), .bl (decide (("InvalidNet" : Str) = nm)), .bl (decide (("InvalidLot" : Str) = nm)), .bl (decide (("InvalidWord" : Str) = nm))]) h2
  have y2 := y1.trans (z2.trans w2)
  have f2 := xd_mono y2 hfs
  refine ⟨_, rfl, _, rfl, .ref a6, _, decide (("InvalidWords" : Str) = nm), fs, rfl, (fun u hu => hu), k6, f2, _, rfl, .ref a7, _, decide (("InvalidSignals" : Str) = nm), fs, rfl, (fun u hu => hu), k7, f2, _, rfl, .ref a8, _, decide (("InvalidLosses" : Str) = nm), fs, rfl, (fun u hu => hu), k8, f2, by show 3 ≤ sizeLine; decide, fun m3 hm3 => ?_⟩
  have z3 : Ext TT [] _ _ := .new (o := .lst [.bl (decide (("InvalidWords" : Str) = nm)), .bl (decide (("InvalidSignals" : Str) = nm)), .bl (decide (("InvalidLosses" : Str) = nm))]) hm3
  refine ⟨l2, m3, _, _, rfl, rfl, z3.lst upd_same, upd_same, by show 6 + 3 ≤ sizeLine; decide, fun l3 h3 => ?_⟩
  have w3 : Ext TT [] _ _ := .new (o := .lst [.bl (decide (("InvalidNumber" : Str) = nm)), .bl (decide (("InvalidMatrix" : Str) = nm)), .bl (decide (("InvalidAudience" : Str) = nm)), .bl (decide (("InvalidNet" : Str) = nm)), .bl (decide (("InvalidLot" : Str) = nm)), .bl (decide (("InvalidWord" : Str) = nm)), .bl (decide (("InvalidWords" : Str) = nm)), .bl (decide (("InvalidSignals" : Str) = nm)), .bl (decide (("InvalidLosses" : Str) = nm))]) h3
  have y3 := y2.trans (z3.trans w3)
  have f3 := xd_mono y3 hfs
  refine ⟨_, rfl, _, rfl, .ref a9, _, decide (("InvalidText" : Str) = nm), fs, rfl, (fun u hu => hu), k9, f3, _, rfl, .ref a10, _, decide (("InvalidLine" : Str) = nm), fs, rfl, (fun u hu => hu), k10, f3, _, rfl, .ref a11, _, decide (("UnknownWord" : Str) = nm), fs, rfl, (fun u hu => hu), k11, f3, by show 3 ≤ sizeLine; decide, fun m4 hm4 => ?_⟩
  have z4 : Ext TT [] _ _ := .new (o := .lst [.bl (decide (("InvalidText" : Str) = nm)), .bl (decide (("InvalidLine" : Str) = nm)), .bl (decide (("UnknownWord" : Str) = nm))]) hm4
  refine ⟨l3, m4, _, _, rfl, rfl, z4.lst upd_same, upd_same, by show 9 + 3 ≤ sizeLine; decide, fun l4 h4 => ?_⟩
  have w4 : Ext TT [] _ _ := .new (o := .lst [.bl (decide (("InvalidNumber" : Str) = nm)), .bl (decide (("InvalidMatrix" : Str) = nm)), .bl (decide (("InvalidAudience" : Str) = nm)), .bl (decide (("InvalidNet" : Str) = nm)), .bl (decide (("InvalidLot" : Str) = nm)), .bl (decide (("InvalidWord" : Str) = nm)), .bl (decide (("InvalidWords" : Str) = nm)), .bl (decide (("InvalidSignals" : Str) = nm)), .bl (decide (("InvalidLosses" : Str) = nm)), .bl (decide (("InvalidText" : Str) = nm)), .bl (decide (("InvalidLine" : Str) = nm)), .bl (decide (("UnknownWord" : Str) = nm))]) h4
  have y4 := y3.trans (z4.trans w4)
  have f4 := xd_mono y4 hfs
  refine ⟨_, rfl, _, rfl, .ref a12, _, decide (("TooMany" : Str) = nm), fs, rfl, (fun u hu => hu), k12, f4, _, rfl, .ref a13, _, decide (("Undefined" : Str) = nm), fs, rfl, (fun u hu => hu), k13, f4, _, rfl, .ref a14, _, decide (("NothingToUndo" : Str) = nm), fs, rfl, (fun u hu => hu), k14, f4, by show 3 ≤ sizeLine; decide, fun m5 hm5 => ?_⟩
  have z5 : Ext TT [] _ _ := .new (o := .lst [.bl (decide (("TooMany" : Str) = nm)), .bl (decide (("Undefined" : Str) = nm)), .bl (decide (("NothingToUndo" : Str) = nm))]) hm5
  refine ⟨l4, m5, _, _, rfl, rfl, z5.lst upd_same, upd_same, by show 12 + 3 ≤ sizeLine; decide, fun l5 h5 => ?_⟩
  have w5 : Ext TT [] _ _ := .new (o := .lst [.bl (decide (("InvalidNumber" : Str) = nm)), .bl (decide (("InvalidMatrix" : Str) = nm)), .bl (decide (("InvalidAudience" : Str) = nm)), .bl (decide (("InvalidNet" : Str) = nm)), .bl (decide (("InvalidLot" : Str) = nm)), .bl (decide (("InvalidWord" : Str) = nm)), .bl (decide (("InvalidWords" : Str) = nm)), .bl (decide (("InvalidSignals" : Str) = nm)), .bl (decide (("InvalidLosses" : Str) = nm)), .bl (decide (("InvalidText" : Str) = nm)), .bl (decide (("InvalidLine" : Str) = nm)), .bl (decide (("UnknownWord" : Str) = nm)), .bl (decide (("TooMany" : Str) = nm)), .bl (decide (("Undefined" : Str) = nm)), .bl (decide (("NothingToUndo" : Str) = nm))]) h5
  have y5 := y4.trans (z5.trans w5)
  have f5 := xd_mono y5 hfs
  refine ⟨_, rfl, .inl ⟨rfl, _, sql upd_same⟩, _, rfl, .ref a15, _, decide (("InvalidDeed" : Str) = nm), fs, rfl, (fun u hu => hu), k15, f5, l5, _, _, rfl, rfl, upd_same, by show 15 < sizeLine; decide, ?_⟩
  exact ⟨_, rfl, q _ l5 (y5.mut ((y4.trans z5).dom _ h5)) upd_same⟩
theorem sc_alone : FnScope ["_law_e", "_law_kind", "_law_kinds_here"] ["_law_e", "_law_kind"] (defScope (topS 47)) := ⟨rfl, rfl, rfl, by decide +kernel, rfl, by decide +kernel, by decide +kernel⟩
/-- the kinds of the law: place and name -/
def Knd (j : Nat) (nm : Str) : Prop := (j = 0 ∧ nm = "InvalidNumber") ∨ (j = 1 ∧ nm = "InvalidMatrix") ∨ (j = 13 ∧ nm = "Undefined")
theorem Knd.one {j : Nat} {nm : Str} (h : Knd j nm) : (bools nm)[j]? = some true ∧ (bools nm).count true = 1 := by
  rcases h with ⟨rfl, rfl⟩ | ⟨rfl, rfl⟩ | ⟨rfl, rfl⟩ <;> exact ⟨by decide +kernel, by decide +kernel⟩
def sp_alone (K : PySem.W.Frag) (mg : Str → Option Value) (TT : List Addr) : Addr × Obj → Sp := fun p vs H Q _ => ∃ nm C dd j, vs = [.ref p.1, .int ((j : Nat) : Int)] ∧ Knd j nm ∧ ErrP K mg p nm C dd H ∧ ∀ H', Ext TT [] H H' → Q (.bl true) H'
theorem c_alone (F : ∃ f fd, FunAt K mg "_law_alone" "_law_alone" (topS 47) f fd) (T : Bl K mg) (nVE : mg "ValueError" = none) (C_law_kinds : CalP P w K mg base "_law_kinds" 1 ["_law_e"] (sp_kinds K mg TT)) : CalP P w K mg base "_law_alone" 2 ["_law_e", "_law_kind"] (sp_alone K mg TT) := by
  have SC := sc_alone
  refine calP_of F sc_alone (fun _ _ _ _ _ _ us hl => match us, hl with | [_, _], _ => rfl) (fun p vs H Q E h => by obtain ⟨nm, C, dd, j, rfl, _⟩ := h; rfl) fun f cdv A outer s H vs Q E p hh hr h => ?_
  obtain ⟨nm, C, dd, j, rfl, hk, hE, q⟩ := h
  obtain ⟨EKC, hz, hf, fs, hfs⟩ := id hE
  obtain ⟨aS, gS, kS, _⟩ := EKC.say
  have kV := EKC.ve
  refine ⟨_, (pss_cons (ps_set (i := 2) SC.nd rfl (.inl rfl) (pe_calP C_law_kinds hr (by decide) (q := p) ⟨hh, List.mem_singleton.mpr rfl⟩ (by rfl) (pa_cons (pv 0) pa_nil)))
    (pss_one (ps_ret (pe_and (pe_callB (call_isP (D := C) (dd := dd) (q := p) EKC.is (List.mem_singleton.mpr rfl) hz hf) (by rfl) T.nisinstance (by decide +kernel) (pa_cons (pv 0) (pa_cons (pe_glob (v := .ref aS) (by rfl) gS rfl) pa_nil))) (pe_and (pe_callB (call_isP (D := C) (dd := dd) (q := p) EKC.is (List.mem_singleton.mpr rfl) hz hf) (by rfl) T.nisinstance (by decide +kernel) (pa_cons (pv 0) (pa_cons (pe_bltn (v := .ty "ValueError") (u := .type "ValueError") (by rfl) nVE (by decide +kernel) rfl) pa_nil))) (pe_and (pe_ix ix_list (pv 2) (pv 1) (fun _ _ => rfl)) (pe_one (pe_cmpR op_eq (pe_bm PySem.F.plainAttrs_list PySem.F.slot_list_count PySem.F.type_list_count mt_bcount (pv 2) (pa_cons pe_bl pa_nil)) pe_int (nomark _))))))))), ?_⟩
  refine ⟨_, rfl, nm, C, dd, rfl, hE, fun H1 l x1 hl => ?_⟩
  have f1 := xd_mono x1 hfs
  obtain ⟨k1, k2⟩ := hk.one
  refine ⟨_, rfl, .ref aS, _, true, fs, rfl, (fun u hu => hu), kS, f1, true, rfl, iteT ?_⟩
  refine ⟨_, rfl, .ty "ValueError", _, true, fs, rfl, (fun u hu => hu), kV, f1, true, rfl, iteT ?_⟩
  refine ⟨_, rfl, _, rfl, l, _, _, _, rfl, rfl, sql hl, atI_nat (j := j) (v := .bl true) (by rw [List.getElem?_map, k1]; rfl), true, rfl, iteT ?_⟩
  refine ⟨_, rfl, .inl ⟨rfl, _, sql hl⟩, l, bools nm, true, rfl, rfl, hl, rfl, ?_⟩
  have e : decide (V.int (((bools nm).count true : Nat) : Int) = V.int 1) = true := by rw [k2]; rfl
  show Q (.bl (decide (V.int (((bools nm).count true : Nat) : Int) = V.int 1))) H1
  rw [e]
  exact q H1 x1
end
end K17
end

section
set_option linter.all false
set_option maxRecDepth 100000
set_option maxHeartbeats 2000000
namespace K17
open PySem PySem.Spec PyProof.Rows L2 G17 M17
open GxR (TabG Tabbed)
theorem kitTL {K : PySem.W.Frag} {H : Hp} {v : V} {t : String} (h : Kd H v t) : PySem.W.kitAny K (.type t) [.type "tuple", .type "list"] = some (decide (t = "tuple") || decide (t = "list")) := by
  have h1 := kdList (K := K) h
  have h2 := ktup (K := K) h
  refine kitAny_cons h2 (fun e => ?_) (fun e => by rw [e]; rfl)
  rw [e, Bool.false_or]
  exact kitAny_cons h1 (fun e2 => by rw [e2]; rfl) (fun e2 => e2)
/-- xs[i] of a list or a tuple -/
theorem ix_any {X : Cx} : IxR X (fun x y H Q => rIxL X.K x y H Q ∨ rIxT X.K x y H Q) := fun a b c d e f g h i j k l m n o p => o.elim (fun o => ix_list a b c d e f g h i j k l m n o p) (fun o => ix_tup a b c d e f g h i j k l m n o p)
/-- a tree, one level up -/
def Up (R : Hp → V → Prop) : Hp → V → Prop := fun H v => Sc v ∨ ∃ a xs, v = .ref a ∧ (H a = some (.tup xs) ∨ H a = some (.lst xs)) ∧ xs.length ≤ 1000 ∧ ∀ y ∈ xs, R H y
theorem T1.up {q : Addr} {H : Hp} {v : V} (h : T1 q H v) : Up (fun _ => Sc) H v := by
  rcases h with h | ⟨a, xs, e, h, r⟩
  · exact .inl h
  · exact .inr ⟨a, xs, e, h.imp id (·.2), r⟩
theorem T2.up {q : Addr} {H : Hp} {v : V} (h : T2 q H v) : Up (Up (fun _ => Sc)) H v := by
  rcases h with h | ⟨a, xs, e, h, hl, r⟩
  · exact .inl h
  · exact .inr ⟨a, xs, e, h.imp id (·.2), hl, fun y hy => (r y hy).up⟩
theorem Up.mono {TT : List Addr} {R : Hp → V → Prop} (hR : ∀ {H H' v}, Ext TT [] H H' → R H v → R H' v) {H H' : Hp} {v : V} (x : Ext TT [] H H') (h : Up R H v) : Up R H' v := by
  rcases h with h | ⟨a, xs, e, h, hl, r⟩
  · exact .inl h
  · exact .inr ⟨a, xs, e, h.imp (x.tup _ _) x.lst, hl, fun y hy => hR x (r y hy)⟩
def hotP : Addr × Obj → Prop := fun p => ∃ vs : Array Value, p.2.data = .fields vs ∧ vs[2]? = some .none
section
variable {P : Program} {w : World} {K : PySem.W.Frag} {mg : Str → Option Value} {base : Heap} {TT : List Addr}
theorem sc_same : FnScope ["_law_told_here", "_law_due", "_law_k"] ["_law_told_here", "_law_due"] (defScope (topS 45)) := ⟨rfl, rfl, rfl, by decide +kernel, rfl, by decide +kernel, by decide +kernel⟩
def sp_same (TT : List Addr) (R : Hp → V → Prop) (hp : Addr × Obj → Prop) : Addr × Obj → Sp := fun p vs H Q _ => ∃ v, vs = [v, v] ∧ R H v ∧ hp p ∧ ∀ H', Ext TT [] H H' → Q (.bl true) H'
theorem c_same0 (hp : Addr × Obj → Prop) (F : ∃ f fd, FunAt K mg "_law_same" "_law_same" (topS 45) f fd) (T : Bl K mg) : CalP P w K mg base "_law_same" 1 ["_law_told_here", "_law_due"] (sp_same TT (fun _ => Sc) hp) := by
  have SC := sc_same
  refine calP_of F sc_same (fun _ _ _ _ _ _ us hl => match us, hl with | [_, _], _ => rfl) (fun p vs H Q E h => by obtain ⟨v, rfl, _⟩ := h; rfl) fun f cdv A outer s H vs Q E p hh hr h => ?_
  obtain ⟨v, rfl, hs, _, q⟩ := h
  refine ⟨_, (pss_cons (ps_if (pt_val (pe_callB call_isiT (by rfl) T.nisinstance (by decide +kernel) (pa_cons (pv 1) (pa_cons (pe_tup (pa_cons (pe_bltn (v := .ty "tuple") (u := .type "tuple") (by rfl) T.ntuple (by decide +kernel) rfl) (pa_cons (pe_bltn (v := .ty "list") (u := .type "list") (by rfl) T.nlist (by decide +kernel) rfl) pa_nil))) pa_nil)))) (pss_cons ps_never
      (pss_cons ps_never
      (pss_cons ps_never
      (pss_one ps_never)))) pss_nil)
    (pss_cons (ps_if (pt_cmpR op_isN (pv 1) pe_non (nomark _)) (pss_one (ps_ret (pe_cmpR op_isN (pv 0) pe_non (nomark _)))) pss_nil)
    (pss_cons (ps_if (pt_val (pe_callB call_isi (by rfl) T.nisinstance (by decide +kernel) (pa_cons (pv 1) (pa_cons (pe_bltn (v := .ty "bool") (u := .type "bool") (by rfl) T.nbool (by decide +kernel) rfl) pa_nil)))) (pss_one (ps_ret (pe_and (pe_callB call_isi (by rfl) T.nisinstance (by decide +kernel) (pa_cons (pv 0) (pa_cons (pe_bltn (v := .ty "bool") (u := .type "bool") (by rfl) T.nbool (by decide +kernel) rfl) pa_nil))) (pe_one (pe_cmpR op_eq (pv 0) (pv 1) (nomark _)))))) pss_nil)
    (pss_cons (ps_if (pt_val (pe_callB call_isi (by rfl) T.nisinstance (by decide +kernel) (pa_cons (pv 1) (pa_cons (pe_bltn (v := .ty "str") (u := .type "str") (by rfl) T.nstr (by decide +kernel) rfl) pa_nil)))) (pss_one (ps_ret (pe_and (pe_callB call_isi (by rfl) T.nisinstance (by decide +kernel) (pa_cons (pv 0) (pa_cons (pe_bltn (v := .ty "str") (u := .type "str") (by rfl) T.nstr (by decide +kernel) rfl) pa_nil))) (pe_one (pe_cmpR op_eq (pv 0) (pv 1) (nomark _)))))) pss_nil)
    (pss_one (ps_ret (pe_and (pe_callB call_isi (by rfl) T.nisinstance (by decide +kernel) (pa_cons (pv 0) (pa_cons (pe_bltn (v := .ty "int") (u := .type "int") (by rfl) T.nint (by decide +kernel) rfl) pa_nil))) (pe_and (pe_not (pe_callB call_isi (by rfl) T.nisinstance (by decide +kernel) (pa_cons (pv 0) (pa_cons (pe_bltn (v := .ty "bool") (u := .type "bool") (by rfl) T.nbool (by decide +kernel) rfl) pa_nil)))) (pe_one (pe_cmpR op_eq (pv 0) (pv 1) (nomark _))))))))))), ?_⟩
  rcases hs with rfl | ⟨b, rfl⟩ | ⟨i, rfl⟩ | ⟨x, rfl⟩
  · refine ⟨_, rfl, by show 2 ≤ sizeLine; decide, fun t ht => ⟨_, t, _, _, _, _, rfl, upd_same, .cons (.ty _) (.cons (.ty _) .nil), (Kd.non).ty, kitTL (Kd.non (H := H)), false, rfl, iteF ?_⟩⟩
    have x1 : Ext TT [] H _ := .new (o := .tup [.ty "tuple", .ty "list"]) ht
    exact ⟨_, rfl, rfl, true, rfl, iteT ⟨_, rfl, rfl, q _ x1⟩⟩
  · refine ⟨_, rfl, by show 2 ≤ sizeLine; decide, fun t ht => ⟨_, t, _, _, _, _, rfl, upd_same, .cons (.ty _) (.cons (.ty _) .nil), (Kd.bl b).ty, kitTL (Kd.bl (H := H) b), false, rfl, iteF ?_⟩⟩
    have x1 : Ext TT [] H _ := .new (o := .tup [.ty "tuple", .ty "list"]) ht
    refine ⟨_, rfl, rfl, false, rfl, iteF ?_⟩
    refine ⟨_, rfl, _, _, _, _, true, rfl, .ty _, (Kd.bl b).ty, kit_ty (by decide +kernel), true, rfl, iteT ?_⟩
    refine ⟨_, rfl, _, _, _, _, true, rfl, .ty _, (Kd.bl b).ty, kit_ty (by decide +kernel), true, rfl, iteT ⟨_, rfl, _, rfl, rfl, ?_⟩⟩
    have e : decide (V.bl b = V.bl b) = true := decide_eq_true rfl
    show Q (.bl (decide (V.bl b = V.bl b))) _
    rw [e]
    exact q _ x1
  · refine ⟨_, rfl, by show 2 ≤ sizeLine; decide, fun t ht => ⟨_, t, _, _, _, _, rfl, upd_same, .cons (.ty _) (.cons (.ty _) .nil), (Kd.int i).ty, kitTL (Kd.int (H := H) i), false, rfl, iteF ?_⟩⟩
    have x1 : Ext TT [] H _ := .new (o := .tup [.ty "tuple", .ty "list"]) ht
    refine ⟨_, rfl, rfl, false, rfl, iteF ?_⟩
    refine ⟨_, rfl, _, _, _, _, false, rfl, .ty _, (Kd.int i).ty, kit_ty (by decide +kernel), false, rfl, iteF ?_⟩
    refine ⟨_, rfl, _, _, _, _, false, rfl, .ty _, (Kd.int i).ty, kit_ty (by decide +kernel), false, rfl, iteF ?_⟩
    refine ⟨_, rfl, _, _, _, _, true, rfl, .ty _, (Kd.int i).ty, kit_ty (by decide +kernel), true, rfl, iteT ?_⟩
    refine ⟨_, rfl, _, _, _, _, false, rfl, .ty _, (Kd.int i).ty, kit_ty (by decide +kernel), false, rfl, true, rfl, iteT ⟨_, rfl, _, rfl, rfl, ?_⟩⟩
    have e : decide (V.int i = V.int i) = true := decide_eq_true rfl
    show Q (.bl (decide (V.int i = V.int i))) _
    rw [e]
    exact q _ x1
  · refine ⟨_, rfl, by show 2 ≤ sizeLine; decide, fun t ht => ⟨_, t, _, _, _, _, rfl, upd_same, .cons (.ty _) (.cons (.ty _) .nil), (Kd.str x).ty, kitTL (Kd.str (H := H) x), false, rfl, iteF ?_⟩⟩
    have x1 : Ext TT [] H _ := .new (o := .tup [.ty "tuple", .ty "list"]) ht
    refine ⟨_, rfl, rfl, false, rfl, iteF ?_⟩
    refine ⟨_, rfl, _, _, _, _, false, rfl, .ty _, (Kd.str x).ty, kit_ty (by decide +kernel), false, rfl, iteF ?_⟩
    refine ⟨_, rfl, _, _, _, _, true, rfl, .ty _, (Kd.str x).ty, kit_ty (by decide +kernel), true, rfl, iteT ?_⟩
    refine ⟨_, rfl, _, _, _, _, true, rfl, .ty _, (Kd.str x).ty, kit_ty (by decide +kernel), true, rfl, iteT ⟨_, rfl, _, rfl, rfl, ?_⟩⟩
    have e : decide (V.str x = V.str x) = true := decide_eq_true rfl
    show Q (.bl (decide (V.str x = V.str x))) _
    rw [e]
    exact q _ x1
theorem c_same_up {R : Hp → V → Prop} {k : Nat} (hR : ∀ {H H' v}, Ext TT [] H H' → R H v → R H' v) (F : ∃ f fd, FunAt K mg "_law_same" "_law_same" (topS 45) f fd) (T : Bl K mg) (C_law_same : CalP P w K mg base "_law_same" k ["_law_told_here", "_law_due"] (sp_same TT R hotP)) :
    CalP P w K mg base "_law_same" (k + 1) ["_law_told_here", "_law_due"] (sp_same TT (Up R) hotP) := by
  have SC := sc_same
  refine calP_of F sc_same (fun _ _ _ _ _ _ us hl => match us, hl with | [_, _], _ => rfl) (fun p vs H Q E h => by obtain ⟨v, rfl, _⟩ := h; rfl) fun f cdv A outer s H vs Q E p hh hr h => ?_
  obtain ⟨v, rfl, hv, hot, q⟩ := h
  have HOT : L2H.HotC (L2H.cxH CX0 P w K mg base ["_law_told_here", "_law_due", "_law_k"] "_law_same" (defScope (topS 45)) f cdv A outer s H E p) := let ⟨ws, e, c⟩ := hot; ⟨p, ⟨hh, ws, e, c⟩, List.mem_singleton.mpr rfl⟩
  refine ⟨_, (pss_cons (ps_if (pt_val (pe_callB call_isiT (by rfl) T.nisinstance (by decide +kernel) (pa_cons (pv 1) (pa_cons (pe_tup (pa_cons (pe_bltn (v := .ty "tuple") (u := .type "tuple") (by rfl) T.ntuple (by decide +kernel) rfl) (pa_cons (pe_bltn (v := .ty "list") (u := .type "list") (by rfl) T.nlist (by decide +kernel) rfl) pa_nil))) pa_nil)))) (pss_cons (ps_if (PW.pt (pw_or (pt_not (pt_val (pe_callB call_isiT (by rfl) T.nisinstance (by decide +kernel) (pa_cons (pv 0) (pa_cons (pe_tup (pa_cons (pe_bltn (v := .ty "tuple") (u := .type "tuple") (by rfl) T.ntuple (by decide +kernel) rfl) (pa_cons (pe_bltn (v := .ty "list") (u := .type "list") (by rfl) T.nlist (by decide +kernel) rfl) pa_nil))) pa_nil))))) (pw_or1 (pt_cmpR op_ne (pe_callB call_isi (by rfl) T.nisinstance (by decide +kernel) (pa_cons (pv 0) (pa_cons (pe_bltn (v := .ty "list") (u := .type "list") (by rfl) T.nlist (by decide +kernel) rfl) pa_nil))) (pe_callB call_isi (by rfl) T.nisinstance (by decide +kernel) (pa_cons (pv 1) (pa_cons (pe_bltn (v := .ty "list") (u := .type "list") (by rfl) T.nlist (by decide +kernel) rfl) pa_nil))) (nomark _))))) (pss_one (ps_ret pe_bl)) pss_nil)
      (pss_cons (ps_if (pt_cmpR op_ne (pe_callB call_len_seq (by rfl) T.nlen (by decide +kernel) (pa_cons (pv 0) pa_nil)) (pe_callB call_len_seq (by rfl) T.nlen (by decide +kernel) (pa_cons (pv 1) pa_nil)) (nomark _)) (pss_one (ps_ret pe_bl)) pss_nil)
      (pss_cons (L2H.ps_forH PassesOwn.leaving HOT (L2H.pi_range1H (by rfl) T.nrange (pa_cons (pe_callB call_len_seq (by rfl) T.nlen (by decide +kernel) (pa_cons (pv 1) pa_nil)) pa_nil)) (pg_name (i := 2) SC.nd rfl (.inl rfl)) (pss_one (ps_if (pt_not (pt_val (pe_calP C_law_same hr (Nat.le_refl _) (q := p) ⟨hh, List.mem_singleton.mpr rfl⟩ (by rfl) (pa_cons (pe_ix ix_any (pv 0) (pv 2) (fun _ _ => rfl)) (pa_cons (pe_ix ix_any (pv 1) (pv 2) (fun _ _ => rfl)) pa_nil))))) (pss_one (ps_ret pe_bl)) pss_nil)))
      (pss_one (ps_ret pe_bl))))) pss_nil)
    (pss_cons (ps_if (pt_cmpR op_isN (pv 1) pe_non (nomark _)) (pss_one (ps_ret (pe_cmpR op_isN (pv 0) pe_non (nomark _)))) pss_nil)
    (pss_cons (ps_if (pt_val (pe_callB call_isi (by rfl) T.nisinstance (by decide +kernel) (pa_cons (pv 1) (pa_cons (pe_bltn (v := .ty "bool") (u := .type "bool") (by rfl) T.nbool (by decide +kernel) rfl) pa_nil)))) (pss_one (ps_ret (pe_and (pe_callB call_isi (by rfl) T.nisinstance (by decide +kernel) (pa_cons (pv 0) (pa_cons (pe_bltn (v := .ty "bool") (u := .type "bool") (by rfl) T.nbool (by decide +kernel) rfl) pa_nil))) (pe_one (pe_cmpR op_eq (pv 0) (pv 1) (nomark _)))))) pss_nil)
    (pss_cons (ps_if (pt_val (pe_callB call_isi (by rfl) T.nisinstance (by decide +kernel) (pa_cons (pv 1) (pa_cons (pe_bltn (v := .ty "str") (u := .type "str") (by rfl) T.nstr (by decide +kernel) rfl) pa_nil)))) (pss_one (ps_ret (pe_and (pe_callB call_isi (by rfl) T.nisinstance (by decide +kernel) (pa_cons (pv 0) (pa_cons (pe_bltn (v := .ty "str") (u := .type "str") (by rfl) T.nstr (by decide +kernel) rfl) pa_nil))) (pe_one (pe_cmpR op_eq (pv 0) (pv 1) (nomark _)))))) pss_nil)
    (pss_one (ps_ret (pe_and (pe_callB call_isi (by rfl) T.nisinstance (by decide +kernel) (pa_cons (pv 0) (pa_cons (pe_bltn (v := .ty "int") (u := .type "int") (by rfl) T.nint (by decide +kernel) rfl) pa_nil))) (pe_and (pe_not (pe_callB call_isi (by rfl) T.nisinstance (by decide +kernel) (pa_cons (pv 0) (pa_cons (pe_bltn (v := .ty "bool") (u := .type "bool") (by rfl) T.nbool (by decide +kernel) rfl) pa_nil)))) (pe_one (pe_cmpR op_eq (pv 0) (pv 1) (nomark _))))))))))), ?_⟩
  rcases hv with hs | ⟨a, xs, rfl, ha, hl, hx⟩
  · skip
    rcases hs with rfl | ⟨b, rfl⟩ | ⟨i, rfl⟩ | ⟨x, rfl⟩
    · refine ⟨_, rfl, by show 2 ≤ sizeLine; decide, fun t ht => ⟨_, t, _, _, _, _, rfl, upd_same, .cons (.ty _) (.cons (.ty _) .nil), (Kd.non).ty, kitTL (Kd.non (H := H)), false, rfl, iteF ?_⟩⟩
      have x1 : Ext TT [] H _ := .new (o := .tup [.ty "tuple", .ty "list"]) ht
      exact ⟨_, rfl, rfl, true, rfl, iteT ⟨_, rfl, rfl, q _ x1⟩⟩
    · refine ⟨_, rfl, by show 2 ≤ sizeLine; decide, fun t ht => ⟨_, t, _, _, _, _, rfl, upd_same, .cons (.ty _) (.cons (.ty _) .nil), (Kd.bl b).ty, kitTL (Kd.bl (H := H) b), false, rfl, iteF ?_⟩⟩
      have x1 : Ext TT [] H _ := .new (o := .tup [.ty "tuple", .ty "list"]) ht
      refine ⟨_, rfl, rfl, false, rfl, iteF ?_⟩
      refine ⟨_, rfl, _, _, _, _, true, rfl, .ty _, (Kd.bl b).ty, kit_ty (by decide +kernel), true, rfl, iteT ?_⟩
      refine ⟨_, rfl, _, _, _, _, true, rfl, .ty _, (Kd.bl b).ty, kit_ty (by decide +kernel), true, rfl, iteT ⟨_, rfl, _, rfl, rfl, ?_⟩⟩
      have e : decide (V.bl b = V.bl b) = true := decide_eq_true rfl
      show Q (.bl (decide (V.bl b = V.bl b))) _
      rw [e]
      exact q _ x1
    · refine ⟨_, rfl, by show 2 ≤ sizeLine; decide, fun t ht => ⟨_, t, _, _, _, _, rfl, upd_same, .cons (.ty _) (.cons (.ty _) .nil), (Kd.int i).ty, kitTL (Kd.int (H := H) i), false, rfl, iteF ?_⟩⟩
      have x1 : Ext TT [] H _ := .new (o := .tup [.ty "tuple", .ty "list"]) ht
      refine ⟨_, rfl, rfl, false, rfl, iteF ?_⟩
      refine ⟨_, rfl, _, _, _, _, false, rfl, .ty _, (Kd.int i).ty, kit_ty (by decide +kernel), false, rfl, iteF ?_⟩
      refine ⟨_, rfl, _, _, _, _, false, rfl, .ty _, (Kd.int i).ty, kit_ty (by decide +kernel), false, rfl, iteF ?_⟩
      refine ⟨_, rfl, _, _, _, _, true, rfl, .ty _, (Kd.int i).ty, kit_ty (by decide +kernel), true, rfl, iteT ?_⟩
      refine ⟨_, rfl, _, _, _, _, false, rfl, .ty _, (Kd.int i).ty, kit_ty (by decide +kernel), false, rfl, true, rfl, iteT ⟨_, rfl, _, rfl, rfl, ?_⟩⟩
      have e : decide (V.int i = V.int i) = true := decide_eq_true rfl
      show Q (.bl (decide (V.int i = V.int i))) _
      rw [e]
      exact q _ x1
    · refine ⟨_, rfl, by show 2 ≤ sizeLine; decide, fun t ht => ⟨_, t, _, _, _, _, rfl, upd_same, .cons (.ty _) (.cons (.ty _) .nil), (Kd.str x).ty, kitTL (Kd.str (H := H) x), false, rfl, iteF ?_⟩⟩
      have x1 : Ext TT [] H _ := .new (o := .tup [.ty "tuple", .ty "list"]) ht
      refine ⟨_, rfl, rfl, false, rfl, iteF ?_⟩
      refine ⟨_, rfl, _, _, _, _, false, rfl, .ty _, (Kd.str x).ty, kit_ty (by decide +kernel), false, rfl, iteF ?_⟩
      refine ⟨_, rfl, _, _, _, _, true, rfl, .ty _, (Kd.str x).ty, kit_ty (by decide +kernel), true, rfl, iteT ?_⟩
      refine ⟨_, rfl, _, _, _, _, true, rfl, .ty _, (Kd.str x).ty, kit_ty (by decide +kernel), true, rfl, iteT ⟨_, rfl, _, rfl, rfl, ?_⟩⟩
      have e : decide (V.str x = V.str x) = true := decide_eq_true rfl
      show Q (.bl (decide (V.str x = V.str x))) _
      rw [e]
      exact q _ x1
  · obtain ⟨ty, kd, ht⟩ : ∃ ty, Kd H (.ref a) ty ∧ (decide (ty = "tuple") || decide (ty = "list")) = true := ha.elim (fun h => ⟨_, .tup h, rfl⟩) (fun h => ⟨_, .lst h, rfl⟩)
    have seq : ∀ {H'}, Ext TT [] H H' → SqL K H' a xs ∨ SqT K H' a xs := fun x => ha.elim (fun h => .inr (sqt (x.tup _ _ h))) (fun h => .inl (sql (x.lst h)))
    refine ⟨_, rfl, by show 2 ≤ sizeLine; decide, fun t ht1 => ⟨_, t, _, _, _, _, rfl, upd_same, .cons (.ty _) (.cons (.ty _) .nil), (kd.mono (M := []) (Ext.new (T := TT) ht1)).ty, kitTL kd, true, congrArg V.bl ht, iteT ?_⟩⟩
    have x1 : Ext TT [] H _ := .new (o := .tup [.ty "tuple", .ty "list"]) ht1
    refine ⟨_, rfl, by show 2 ≤ sizeLine; decide, fun t2 ht2 => ⟨_, t2, _, _, _, _, rfl, upd_same, .cons (.ty _) (.cons (.ty _) .nil), (kd.mono (M := []) (x1.trans (Ext.new (T := TT) ht2))).ty, kitTL kd, true, congrArg V.bl ht, iteF ?_⟩⟩
    have x2 : Ext TT [] H _ := x1.trans (.new (o := .tup [.ty "tuple", .ty "list"]) ht2)
    refine ⟨_, rfl, _, _, _, _, _, rfl, .ty _, (kd.mono (M := []) x2).ty, kdList kd, _, rfl, _, _, _, _, _, rfl, .ty _, (kd.mono (M := []) x2).ty, kdList kd, rfl, false, ?_, iteF ?_⟩
    · show V.bl (!decide (V.bl _ = V.bl _)) = V.bl false
      rw [decide_eq_true rfl]
      rfl
    · refine ⟨_, rfl, a, xs, rfl, seq x2, _, rfl, a, xs, rfl, seq x2, rfl, false, ?_, iteF ?_⟩
      · show V.bl (!decide (V.int _ = V.int _)) = V.bl false
        rw [decide_eq_true rfl]
        rfl
      · refine ⟨_, rfl, a, xs, rfl, seq x2, ((xs.length : Nat) : Int), rfl, by omega, by omega, for_range (lo := 0) (n := xs.length) (fun i σ H' => (∃ y, σ = [some (.ref a), some (.ref a), y]) ∧ Ext TT [] H H') ⟨⟨_, rfl⟩, x2⟩ ?_ ?_⟩
        · rintro i σ H3 hi ⟨⟨y, rfl⟩, x3⟩
          rw [Int.zero_add]
          have at1 : ∀ {Q : VK}, Q (xs.getD i .non) H3 → rIxL K (.ref a) (.int (i : Int)) H3 Q ∨ rIxT K (.ref a) (.int (i : Int)) H3 Q := fun {Q} h => by
            have e : xs[i]? = some (xs.getD i .non) := by rw [List.getD_eq_getElem?_getD, List.getElem?_eq_getElem hi]; rfl
            rcases seq x3 with z | z
            · exact .inl ⟨a, xs, _, _, rfl, rfl, z, atI_nat e, h⟩
            · exact .inr ⟨a, xs, _, _, rfl, rfl, z, atI_nat e, h⟩
          have hm : xs.getD i .non ∈ xs := by rw [List.getD_eq_getElem?_getD, List.getElem?_eq_getElem hi]; exact List.getElem_mem hi
          refine ⟨_, rfl, _, rfl, at1 ⟨_, rfl, _, rfl, at1 ⟨xs.getD i .non, rfl, hR x3 (hx _ hm), hot, fun H4 x4 => ⟨true, rfl, iteF ⟨⟨_, rfl⟩, x3.trans x4⟩⟩⟩⟩⟩
        · rintro σ H3 ⟨⟨y, rfl⟩, x3⟩
          exact q _ x3
end
end K17
end

section
set_option linter.all false
set_option maxRecDepth 100000
set_option maxHeartbeats 2000000
namespace K17
open PySem PySem.Spec PyProof.Rows L2 G17 M17
open GxR (TabG Tabbed)
theorem PE.weak {X : Cx} {e : Expr} {t t' : TE} (p : PE X e t) (h : ∀ σ H Q, t' σ H Q → t σ H Q) : PE X e t' := ⟨fun pins s σ H Q I q => p.run pins s σ H Q I (h σ H Q q)⟩
theorem takesN0 {X : Cx} : L2N.Takes X (fun _ _ _ _ => False) := fun _ _ x => by
  obtain ⟨_, _, _, _, _, _, _, _, _, _, _, _, _, _, _, _, z⟩ := x
  exact z.elim
theorem passC0 {P : Program} {w : World} {X : Cx} : Passes (L2.CX P w) X E0 := fun _ _ _ _ _ _ _ h => by
  obtain ⟨_, _, _, _, _, _, _, _, _, _, _, _, z⟩ := h
  exact z.elim
def sp_aloneS (K : PySem.W.Frag) (mg : Str → Option Value) (TT : List Addr) (a : Addr) (cls : Value) (d : Option Addr) : Sp := fun vs H Q _ => ∃ nm C dd j, vs = [.ref a, .int ((j : Nat) : Int)] ∧ Knd j nm ∧ cls = .ref C ∧ d = some dd ∧ EK K mg nm C ∧ (∃ fs, H dd = some (.xd fs)) ∧ ∀ H', Ext TT [] H H' → Q (.bl true) H'
theorem aloneS {K : PySem.W.Frag} {mg : Str → Option Value} {TT : List Addr} {a : Addr} {oe : Obj} {cls : Value} {d : Option Addr} (hz : Zc cls d oe) (hf : ∃ vs, oe.data = .fields vs) {t : TA} (σ : L2.St) (H : Hp) (Q : VK) (h : tCall (sp_aloneS K mg TT a cls d) [] E0 t σ H Q) (mono : ∀ σ H Q Q', (∀ x H', Q x H' → Q' x H') → t σ H Q → t σ H Q') : tCall (sp_alone K mg TT (a, oe)) [] E0 t σ H Q :=
  mono σ H _ _ (fun vs H' h => by
    obtain ⟨nm, C, dd, j, e, hk, rfl, rfl, hE, hfs, q⟩ := h
    exact ⟨nm, C, dd, j, e, hk, ⟨hE, hz, hf, hfs⟩, q⟩) h
section
variable {P : Program} {w : World} {K : PySem.W.Frag} {mg : Str → Option Value} {base : Heap} {TT : List Addr} {CA CN CM CU C : Addr} {nm qn : Str} {st : Stmt} {j : Nat}
theorem sc_ref' : FnScope ["_law_helper", "_law_telling_here", "_law_listener", "_law_kind", "_law_due", "_law_e"] ["_law_helper", "_law_telling_here", "_law_listener", "_law_kind", "_law_due"] (defScope (topS 61)) := ⟨rfl, rfl, rfl, by decide +kernel, rfl, by decide +kernel, by decide +kernel⟩
/-- refused with the value -/
def sp_refA (TT : List Addr) (CA CN CM C : Addr) (j : Nat) : Sp := fun vs H Q _ => ∃ hv v lv due, vs = [hv, v, lv, .int ((j : Nat) : Int), due] ∧ Up (Up fun _ => Sc) H due ∧
  (∀ (Q' : VK) (E' : XK), (∀ H' d, Ext TT [] H H' → H d = none → H' d = some (.xd [("value", due)]) → E' (.ref C) (some d) H') → sp_decA TT CA CN CM [hv, v, lv] H Q' E') ∧ ∀ H', Ext TT [] H H' → Q (.bl true) H'
theorem c_refA (F : ∃ f fd, FunAt K mg "_law_refused" "_law_refused" (topS 61) f fd) (T : Bl K mg) (U : EC K mg nm qn "value" st C) (hk : Knd j nm) (hj : j ≠ 13) (EKC : EK K mg nm C) (Cdecoder_of : Cal P w K mg base (L2N.CX P w) "decoder_of" 8 ["audience", "telling", "listener"] (sp_decA TT CA CN CM))
    (C_law_alone : CalP P w K mg base "_law_alone" 2 ["_law_e", "_law_kind"] (sp_alone K mg TT)) (C_law_same : CalP P w K mg base "_law_same" 3 ["_law_told_here", "_law_due"] (sp_same TT (Up (Up fun _ => Sc)) hotP)) :
    Cal P w K mg base CX0 "_law_refused" 9 ["_law_helper", "_law_telling_here", "_law_listener", "_law_kind", "_law_due"] (sp_refA TT CA CN CM C j) := by
  have SC := sc_ref'
  obtain ⟨aS, gS, kS, xS⟩ := EKC.say
  refine cal_of F sc_ref' (fun _ _ _ _ _ _ us hl => match us, hl with | [_, _, _, _, _], _ => rfl) (fun vs H Q E h => by obtain ⟨hv, v, lv, due, rfl, _⟩ := h; rfl) fun f cdv A outer s H vs Q E hr h => ?_
  obtain ⟨hv, v, lv, due, rfl, hT, hD, q⟩ := h
  refine ⟨_, (pss_cons
    (L2N.ps_try_as (i := 5) (x := "SayError") (c := .ref aS) rfl rfl SC.nd rfl rfl ⟨by rfl, by decide, .inl gS⟩ takesN0
      (by intro W pn xe tkb _; exact (pss_one (ps_expr (pe_calS (E := WE W) Cdecoder_of hr (by decide) (by rfl) (passN tkb) (pa_cons (pv 0) (pa_cons (pv 1) (pa_cons (pv 2) pa_nil)))))))
      (by intro a oe cls d pn hz hf; exact (pss_cons (ps_if (pt_not (pt_val (PE.weak (t' := tCall (sp_aloneS K mg TT a cls d) [] E0 (tCons (tVar 5) (tCons (tVar 3) tNil))) (pe_calP (q := (a, oe)) C_law_alone (L2H.roomH_mark hr _) (by decide) ⟨rfl, List.mem_cons_self⟩ (by rfl) (pa_cons (pv 5) (pa_cons (pv 3) pa_nil)))
          (fun σ H Q h => aloneS hz.zc hf σ H Q h (fun σ H Q Q' i ⟨x, e, y, e2, h⟩ => ⟨x, e, y, e2, i _ _ h⟩))))) (pss_one (ps_ret pe_bl)) pss_nil)
        (pss_cons (ps_if (pt_cmpR op_eq (pv 3) pe_int (nomark _)) (pss_one ps_never) pss_nil)
        (pss_one (ps_ret (PE.weak (t' := tCall (fun vs H Q _ => ∃ v, vs = [v, v] ∧ Up (Up fun _ => Sc) H v ∧ ∀ H', Ext TT [] H H' → Q (.bl true) H') [] E0 (tCons (tXf a cls d C "value" (tVar 5)) (tCons (tVar 4) tNil)))
          (pe_calP (q := (a, oe)) C_law_same (L2H.roomH_mark hr _) (by decide) ⟨rfl, List.mem_cons_self⟩ (by rfl) (pa_cons (pe_xf U.xf U.nf hz.zc hf (pv 5)) (pa_cons (pv 4) pa_nil)))
          (fun σ H Q h => by
            obtain ⟨x, e, ex, ec, dd, fs, v, ed, ef, el, y, ey, v2, ev, hT2, q2⟩ := h
            exact ⟨x, e, ex, ec, dd, fs, v, ed, ef, el, y, ey, v2, ev, hT2, let ⟨ws, hw⟩ := hf; ⟨ws, hw, hz.2.2 ws hw⟩, q2⟩))))))))
    (pss_one (ps_ret pe_bl))), ?_⟩
  refine ⟨_, rfl, _, rfl, _, rfl, hD (fun _ _ => False) _ fun H1 d x1 hd0 hd => ⟨true, xS, fun _ a ha => ?_, fun z => Bool.noConfusion z⟩⟩
  refine ⟨_, rfl, _, rfl, nm, C, d, j, rfl, hk, rfl, rfl, EKC, ⟨_, hd⟩, fun H2 x2 => ⟨true, rfl, iteF ?_⟩⟩
  refine ⟨_, rfl, rfl, _, rfl, ite2 (fun e => absurd (V.int.inj (of_decide_eq_true e)) (by omega)) (fun _ => ?_)⟩
  exact ⟨_, rfl, rfl, rfl, d, _, due, rfl, xd_mono x2 hd, rfl, _, rfl, due, rfl, Up.mono (TT := TT) (R := Up fun _ => Sc) (fun x h => Up.mono (TT := TT) (R := fun _ => Sc) (fun _ h => h) x h) (x1.trans x2) hT, fun H3 x3 => q _ ((x1.trans x2).trans x3)⟩
/-- refused: no decoder -/
def sp_refB (TT : List Addr) (CA CU : Addr) : Sp := fun vs H Q _ => ∃ hv v lv, vs = [hv, v, lv, .int 13, .str "decoder"] ∧
  (∀ (Q' : VK) (E' : XK), (∀ H' d, Ext TT [] H H' → H' d = some (.xd [("what", .str "decoder")]) → E' (.ref CU) (some d) H') → sp_decB TT CA CU [hv, v, lv] H Q' E') ∧ ∀ H', Ext TT [] H H' → Q (.bl true) H'
theorem c_refB (F : ∃ f fd, FunAt K mg "_law_refused" "_law_refused" (topS 61) f fd) (T : Bl K mg) (U : EC K mg "Undefined" qn "what" st CU) (EKC : EK K mg "Undefined" CU) (Cdecoder_of : Cal P w K mg base (L2.CX P w) "decoder_of" 8 ["audience", "telling", "listener"] (sp_decB TT CA CU))
    (C_law_alone : CalP P w K mg base "_law_alone" 2 ["_law_e", "_law_kind"] (sp_alone K mg TT)) (C_law_same : CalP P w K mg base "_law_same" 1 ["_law_told_here", "_law_due"] (sp_same TT (fun _ => Sc) (fun _ => True))) :
    Cal P w K mg base CX0 "_law_refused" 9 ["_law_helper", "_law_telling_here", "_law_listener", "_law_kind", "_law_due"] (sp_refB TT CA CU) := by
  have SC := sc_ref'
  obtain ⟨aS, gS, kS, xS⟩ := EKC.say
  refine cal_of F sc_ref' (fun _ _ _ _ _ _ us hl => match us, hl with | [_, _, _, _, _], _ => rfl) (fun vs H Q E h => by obtain ⟨hv, v, lv, rfl, _⟩ := h; rfl) fun f cdv A outer s H vs Q E hr h => ?_
  obtain ⟨hv, v, lv, rfl, hD, q⟩ := h
  refine ⟨_, (pss_cons
    (L2.ps_try_as (i := 5) (x := "SayError") (c := .ref aS) rfl rfl SC.nd rfl rfl ⟨by rfl, by decide, .inl gS⟩ L2.takes0
      (by intro W pn xe tkb _; exact (pss_one (ps_expr (pe_calS (E := WE W) Cdecoder_of hr (by decide) (by rfl) (passAt tkb) (pa_cons (pv 0) (pa_cons (pv 1) (pa_cons (pv 2) pa_nil)))))))
      (by intro a oe cls d pn hz hf; exact (pss_cons (ps_if (pt_not (pt_val (PE.weak (t' := tCall (sp_aloneS K mg TT a cls d) [] E0 (tCons (tVar 5) (tCons (tVar 3) tNil))) (pe_calP (q := (a, oe)) C_law_alone (L2H.roomH_mark hr _) (by decide) ⟨rfl, List.mem_cons_self⟩ (by rfl) (pa_cons (pv 5) (pa_cons (pv 3) pa_nil)))
          (fun σ H Q h => aloneS hz hf σ H Q h (fun σ H Q Q' i ⟨x, e, y, e2, h⟩ => ⟨x, e, y, e2, i _ _ h⟩))))) (pss_one (ps_ret pe_bl)) pss_nil)
        (pss_cons (ps_if (pt_cmpR op_eq (pv 3) pe_int (nomark _)) (pss_one (ps_ret (PE.weak (t' := tCall (fun vs H Q _ => ∃ v, vs = [v, v] ∧ Sc v ∧ ∀ H', Ext TT [] H H' → Q (.bl true) H') [] E0 (tCons (tXf a cls d CU "what" (tVar 5)) (tCons (tVar 4) tNil)))
          (pe_calP (q := (a, oe)) C_law_same (L2H.roomH_mark hr _) (by decide) ⟨rfl, List.mem_cons_self⟩ (by rfl) (pa_cons (pe_xf U.xf U.nf hz hf (pv 5)) (pa_cons (pv 4) pa_nil)))
          (fun σ H Q h => by
            obtain ⟨x, e, ex, ec, dd, fs, v, ed, ef, el, y, ey, v2, ev, hT2, q2⟩ := h
            exact ⟨x, e, ex, ec, dd, fs, v, ed, ef, el, y, ey, v2, ev, hT2, True.intro, q2⟩)))) pss_nil)
        (pss_one ps_never)))))
    (pss_one (ps_ret pe_bl))), ?_⟩
  refine ⟨_, rfl, _, rfl, _, rfl, hD _ _ fun H1 d x1 hd => ⟨true, xS, fun _ a ha => ?_, fun z => Bool.noConfusion z⟩⟩
  refine ⟨_, rfl, _, rfl, "Undefined", CU, d, 13, rfl, .inr (.inr ⟨rfl, rfl⟩), rfl, rfl, EKC, ⟨_, hd⟩, fun H2 x2 => ⟨true, rfl, iteF ?_⟩⟩
  refine ⟨_, rfl, rfl, true, rfl, iteT ?_⟩
  exact ⟨_, rfl, rfl, rfl, d, _, .str "decoder", rfl, xd_mono x2 hd, rfl, _, rfl, .str "decoder", rfl, sc_str _, fun H3 x3 => q _ ((x1.trans x2).trans x3)⟩
end
end K17
end

section
set_option linter.all false
set_option maxRecDepth 100000
set_option maxHeartbeats 2000000
namespace K17
open PySem PySem.Spec PyProof.Rows L2 G17 M17
open GxR (TabG Tabbed)
section
variable {P : Program} {w : World} {K : PySem.W.Frag} {mg : Str → Option Value} {base : Heap} {TT : List Addr} {CA CN CM CU : Addr}
theorem sc_told : FnScope ["_law_audience_here", "_law_helper", "_law_telling_here", "_law_k", "_law_listener", "_law_told_here", "_law_j"] ["_law_audience_here", "_law_helper", "_law_telling_here", "_law_k"] (defScope (topS 62)) := ⟨rfl, rfl, rfl, by decide +kernel, rfl, by decide +kernel, by decide +kernel⟩
def sp_told (TT : List Addr) (CA : Addr) : Sp := fun vs H Q _ => ∃ av hv tv p n ls R k, vs = [av, hv, tv, .int ((k : Nat) : Int)] ∧ Tabs TT H ∧ OkA p n ls ∧ Au H av p ((n : Nat) : Int) ls ∧ AuO CA H hv p ((n : Nat) : Int) ls ∧ Mx H tv R ∧ OkM p n R ∧ R.length ≤ 5 ∧ k < ls.length ∧ ∀ H', Ext TT [] H H' → Q (.bl true) H'
theorem c_told (F : ∃ f fd, FunAt K mg "_law_told" "_law_told" (topS 62) f fd) (T : Bl K mg) (C_law_serves : Cal P w K mg base CX0 "_law_serves" 3 ["_law_audience_here", "_law_telling_here", "_law_listener"] (sp_serv TT)) (C_law_refused : Cal P w K mg base CX0 "_law_refused" 9 ["_law_helper", "_law_telling_here", "_law_listener", "_law_kind", "_law_due"] (sp_refB TT CA CU))
    (Cdecoder_of : Cal P w K mg base (L2.CX P w) "decoder_of" 8 ["audience", "telling", "listener"] (sp_decB TT CA CU)) (C_law_decodes : Cal P w K mg base CX0 "_law_decodes" 1 ["_law_audience_here", "_law_rows", "_law_letters", "_law_row"] (sp_decs TT)) : Cal P w K mg base CX0 "_law_told" 10 ["_law_audience_here", "_law_helper", "_law_telling_here", "_law_k"] (sp_told TT CA) := by
  have SC := sc_told
  refine cal_of F sc_told (fun _ _ _ _ _ _ us hl => match us, hl with | [_, _, _, _], _ => rfl) (fun vs H Q E h => by obtain ⟨av, hv, tv, p, n, ls, R, k, rfl, _⟩ := h; rfl) fun f cdv A outer s H vs Q E hr h => ?_
  obtain ⟨av, hv, tv, p, n, ls, R, k, rfl, tb, OA, hAu, hAo, hMx, okR, hRl, hk, q⟩ := h
  refine ⟨_, (pss_cons (ps_set (i := 4) SC.nd rfl (.inl rfl) (pe_ix ix_tup (pe_ix ix_tup (pv 0) pe_int (fun _ _ => rfl)) (pv 3) (fun _ _ => rfl)))
    (pss_cons (ps_if (pt_not (pt_val (pe_cal (E := E0) C_law_serves hr (by decide) (by rfl) pass0 (pa_cons (pv 0) (pa_cons (pv 2) (pa_cons (pv 4) pa_nil)))))) (pss_one (ps_ret (pe_cal (E := E0) C_law_refused hr (by decide) (by rfl) pass0 (pa_cons (pv 1) (pa_cons (pv 2) (pa_cons (pv 3) (pa_cons pe_int (pa_cons pe_str pa_nil)))))))) pss_nil)
    (pss_cons (ps_set (i := 5) SC.nd rfl (.inl rfl) (pe_cal (E := E0) Cdecoder_of hr (by decide) (by rfl) passC0 (pa_cons (pv 1) (pa_cons (pv 2) (pa_cons (pv 3) pa_nil)))))
    (pss_cons (ps_if (PW.pt (pw_or (pt_not (pt_val (pe_callB call_isi (by rfl) T.nisinstance (by decide +kernel) (pa_cons (pv 5) (pa_cons (pe_bltn (v := .ty "tuple") (u := .type "tuple") (by rfl) T.ntuple (by decide +kernel) rfl) pa_nil))))) (pw_or1 (pt_cmpR op_ne (pe_callB call_len_seq (by rfl) T.nlen (by decide +kernel) (pa_cons (pv 5) pa_nil)) (pe_callB call_len_seq (by rfl) T.nlen (by decide +kernel) (pa_cons (pe_ix ix_tup (pv 4) pe_int (fun _ _ => rfl)) pa_nil)) (nomark _))))) (pss_one (ps_ret pe_bl)) pss_nil)
    (pss_cons (ps_for PassesOwn.never rfl (pi_range1 (by rfl) T.nrange (pa_cons (pe_callB call_len_seq (by rfl) T.nlen (by decide +kernel) (pa_cons (pv 5) pa_nil)) pa_nil)) (pg_name (i := 6) SC.nd rfl (.inl rfl)) (pss_one (ps_if (pt_not (pt_val (pe_cal (E := E0) C_law_decodes hr (by decide) (by rfl) pass0 (pa_cons (pv 0) (pa_cons (pe_op op_catA (pv 2) (pe_ix ix_tup (pv 4) pe_int (fun _ _ => rfl))) (pa_cons (pe_ix ix_tup (pv 5) (pv 6) (fun _ _ => rfl)) (pa_cons (pe_ix ix_tup (pe_ix ix_tup (pv 4) pe_int (fun _ _ => rfl)) (pv 6) (fun _ _ => rfl)) pa_nil))))))) (pss_one (ps_ret pe_bl)) pss_nil)))
    (pss_one (ps_ret pe_bl))))))), ?_⟩
  have hAu0 := hAu
  obtain ⟨a, l, rfl, ha, ⟨la, lvs, rfl, hla, pl⟩⟩ := hAu
  obtain ⟨⟨kn, wt⟩, hlk⟩ : ∃ x, ls[k]? = some x := ⟨_, List.getElem?_eq_getElem hk⟩
  obtain ⟨lv, hlv, hL⟩ := paired_get' pl hlk
  obtain ⟨ok1, ok2, ok3, ok4⟩ := OA.ok _ (List.mem_of_getElem? hlk)
  have n1 := OA.n1
  have n5 := OA.n5
  have hz : (R ++ kn).length ≤ 100 := by
    have : kn.length ≤ 50 := ok3
    rw [List.length_append]; omega
  have hw : wt.length ≤ 50 := ok4
  refine ⟨_, rfl, a, _, _, _, rfl, rfl, sqt ha, atI_nat (j := 2) rfl, _, rfl, la, lvs, _, _, rfl, rfl, sqt hla, atI_nat hlv, ?_⟩
  refine ⟨_, rfl, _, rfl, _, rfl, .ref a, tv, lv, p, n, ls, R, kn, wt, rfl, OA.pr, n5, hz, by omega, okR, ok1, ok2, hAu0, hMx, hL, fun H1 b x1 hb => ⟨b, rfl, ite2 (fun e => ?_) (fun e => ?_)⟩⟩
  · have hnot : ¬ ∀ W ∈ wt, Sp p n (R ++ kn) (g W) := fun z => by rw [hb.mpr z] at e; exact absurd e (by decide)
    refine ⟨_, rfl, _, rfl, _, rfl, hv, tv, .int ((k : Nat) : Int), rfl, fun Q' E' he => ?_, fun H2 x2 => q _ (x1.trans x2)⟩
    exact ⟨hv, tv, p, n, ls, k, kn, wt, R, rfl, OA.pr, n1, n5, hAo.mono (M := []) x1, hlk, hMx.mono x1, okR, ok1, ok2, hz, by omega, x1.tabs tb, fun z => absurd z hnot, fun _ H2 d x2 hd => he H2 d x2 hd⟩
  · have hall : ∀ W ∈ wt, Sp p n (R ++ kn) (g W) := hb.mp (by simpa using e)
    refine ⟨_, rfl, _, rfl, _, rfl, hv, tv, p, n, ls, k, kn, wt, R, rfl, OA.pr, n1, n5, hAo.mono (M := []) x1, hlk, hMx.mono x1, okR, ok1, ok2, hz, by omega, x1.tabs tb, fun _ H2 y Ls x2 hy hD => ?_, fun ⟨W, hW, hn⟩ => absurd (hall W hW) hn⟩
    obtain ⟨ta, tvs, rfl, hta, pt⟩ := hy
    have x12 := x1.trans x2
    obtain ⟨lb, kv, uv, rfl, hlb, hkn, ⟨wa, wvs, rfl, hwa, pw⟩⟩ := hL.mono x12
    have l1 := pt.length
    have l2 := hD.length
    have l3 := pw.length
    have l3' : wvs.length = wt.length := l3
    refine ⟨_, rfl, _, _, _, _, true, rfl, .ty _, (Kd.tup hta).ty, ktup (Kd.tup hta), true, rfl, iteF ?_⟩
    refine ⟨_, rfl, ta, _, rfl, .inr (sqt hta), _, rfl, lb, _, _, _, rfl, rfl, sqt hlb, atI_nat (j := 1) rfl, wa, _, rfl, .inr (sqt hwa), rfl, false, ?_, iteF ?_⟩
    · show V.bl (!decide (V.int _ = V.int _)) = V.bl false
      rw [decide_eq_true (congrArg V.int (show ((tvs.length : Nat) : Int) = ((wvs.length : Nat) : Int) by omega))]
      rfl
    · refine ⟨_, rfl, ta, _, rfl, .inr (sqt hta), ((tvs.length : Nat) : Int), rfl, by omega, by omega, for_range (lo := 0) (n := tvs.length) (fun i σ H' => (∃ y6, σ = [some (.ref a), some hv, some tv, some (.int ((k : Nat) : Int)), some (.ref lb), some (.ref ta), y6]) ∧ Ext TT [] H2 H') ⟨⟨_, rfl⟩, .refl _⟩ ?_ ?_⟩
      · rintro i σ H3 hi ⟨⟨y6, rfl⟩, x3⟩
        rw [Int.zero_add]
        have x13 := x12.trans x3
        obtain ⟨L, hLi, hLr⟩ := paired_get pt (List.getElem?_eq_getElem hi)
        obtain ⟨W, hWi, hDW⟩ := paired_get hD hLi
        obtain ⟨wy, hwy, hWr⟩ := paired_get' pw hWi
        refine ⟨_, rfl, _, rfl, _, rfl, lb, _, _, _, rfl, rfl, sqt (x3.tup _ _ hlb), atI_nat (j := 0) rfl, cat_mx (TT := TT) (hMx.mono x13) (hkn.mono x3) (Nat.le_trans hz (by decide)) fun H4 y4 x4 hy4 => ?_⟩
        have x34 := x3.trans x4
        refine ⟨_, rfl, _, rfl, ta, _, _, _, rfl, rfl, sqt (x34.tup _ _ hta), atI_nat (List.getElem?_eq_getElem hi), _, rfl, lb, _, _, _, rfl, rfl, sqt (x34.tup _ _ hlb), atI_nat (j := 1) rfl, _, rfl, wa, _, _, _, rfl, rfl, sqt (x34.tup _ _ hwa), atI_nat hwy, ?_⟩
        exact ⟨.ref a, y4, _, wy, p, n, ls, R ++ kn, L, W, rfl, OA.pr, n5, hz, (fun r hr => (List.mem_append.mp hr).elim (okR r) (ok1 r)), ok2 W (List.mem_of_getElem? hWi), hAu0.mono (x12.trans x34), hy4, hLr.mono x34, hWr.mono x34, hDW, fun H5 x5 => ⟨true, rfl, iteF ⟨⟨_, rfl⟩, x34.trans x5⟩⟩⟩
      · rintro σ H3 ⟨⟨y6, rfl⟩, x3⟩
        exact q _ (x12.trans x3)
end
end K17
end

section
set_option linter.all false
set_option maxRecDepth 100000
set_option maxHeartbeats 2000000
namespace K17
open PySem PySem.Spec PyProof.Rows L2 G17 M17
open GxR (TabG Tabbed)
section
variable {P : Program} {w : World} {K : PySem.W.Frag} {mg : Str → Option Value} {base : Heap} {TT : List Addr} {CA CN CM CU : Addr}
theorem sc_law : FnScope ["_law_script", "_law_pool_here", "_law_audience_here", "_law_helper", "_law_j", "_law_telling_here", "_law_k", "_law_bad", "_law_odd_here"] ["_law_script"] (defScope (topS 63)) := ⟨rfl, rfl, rfl, by decide +kernel, rfl, by decide +kernel, by decide +kernel⟩
def sp_law (K : PySem.W.Frag) (TT : List Addr) : Sp := fun vs H Q _ => ∃ (a : Addr) (ns : List Int), vs = [.ref a] ∧ SqL K H a (ns.map V.int) ∧ (∀ l o, H l = none → SqL K (upd H l o) a (ns.map V.int)) ∧ ns.length ≤ 63 ∧ Tabs TT H ∧ ∀ H', Q (.bl true) H'
/-- THE RULE for a def whose object is given -/
theorem fn_of {x nm : Str} {st : Stmt} {N ps : List Str} {k : Nat} {sp : Sp} {f0 : Addr} {fd : FuncData} (F : FunAt K mg x nm st f0 fd) (S : FnScope N ps (defScope st)) (len : ∀ vs H Q E, sp vs H Q E → vs.length = ps.length)
    (hbody : ∀ (f : Addr) (cdv : Value) (A : Around) (outer : List Env) (s : Shared) (H : Hp) (vs : List V) (Q : VK) (E : XK), Room k (A.deeper (envOfC nm (defScope st) s.heap.objs.size f cdv)) → sp vs H Q E →
      ∃ t, PSs (cxOf CX0 P w K mg base N nm (defScope st) f cdv A outer s H E).nox (defBody st) t ∧ t { nx := fun _ H' => Q .non H', rt := Q } (start N vs) H) : FnOk P w K mg base CX0 (k + 1) f0 fd ps sp :=
  F.1.ok S len fun cdv A outer s H vs Q E hr h => let ⟨t, a, b⟩ := hbody f0 cdv A outer s H vs Q E hr h; ⟨t, a.nox, b⟩
theorem c_law {f0 : Addr} {fd0 : FuncData} (F : FunAt K mg "law" "law" (topS 63) f0 fd0) (T : Bl K mg) (A : AuC K mg CA) (C_law_pool : Cal P w K mg base CX0 "_law_pool" 1 ["_law_script", "_law_many"] (sp_pool K TT)) (C_law_draw : Cal P w K mg base CX0 "_law_draw" 1 ["_law_pool_here", "_law_many"] (sp_draw TT))
    (C_law_audience : Cal P w K mg base CX0 "_law_audience" 3 ["_law_pool_here"] (sp_laud TT)) (Caud : ∀ {fI fd}, FunD K "__init__" "Audience.__init__" (defArgs (methS 41)) (defBody (methS 41)) (defScope (methS 41)) [] [] fI fd → FnOk P w K mg base CX0 8 fI fd ["self", "p", "size", "listeners"] (sp_aud TT CA))
    (C_law_telling : Cal P w K mg base CX0 "_law_telling" 3 ["_law_pool_here", "_law_audience_here"] (sp_tell TT)) (C_law_told : Cal P w K mg base CX0 "_law_told" 10 ["_law_audience_here", "_law_helper", "_law_telling_here", "_law_k"] (sp_told TT CA)) (C_law_no_matrix : Cal P w K mg base CX0 "_law_no_matrix" 3 ["_law_pool_here", "_law_p", "_law_rows", "_law_size"] (sp_nomat TT))
    (C_law_odd : Cal P w K mg base CX0 "_law_odd" 2 ["_law_pool_here", "_law_low", "_law_high"] (sp_odd TT)) (C_refM : Cal P w K mg base CX0 "_law_refused" 9 ["_law_helper", "_law_telling_here", "_law_listener", "_law_kind", "_law_due"] (sp_refA TT CA CN CM CM 1)) (C_refN : Cal P w K mg base CX0 "_law_refused" 9 ["_law_helper", "_law_telling_here", "_law_listener", "_law_kind", "_law_due"] (sp_refA TT CA CN CM CN 0)) :
    FnOk P w K mg base CX0 11 f0 fd0 ["_law_script"] (sp_law K TT) := by
  have SC := sc_law
  obtain ⟨fI, fdI, MK, FI⟩ := A.ini
  have bI : Binds K fdI ["self", "p", "size", "listeners"] [] := FI.bindsN fun _ _ _ _ _ _ us hl => match us, hl with | [_, _, _, _], _ => rfl
  refine fn_of F sc_law (fun vs H Q E h => by obtain ⟨a, ns, rfl, _⟩ := h; rfl) fun f cdv A' outer s H vs Q E hr h => ?_
  obtain ⟨sa, sns, rfl, hS, hSu, hSn, tb, Qq⟩ := h
  refine ⟨_, (pss_cons (ps_set (i := 1) SC.nd rfl (.inl rfl) (pe_cal (E := E0) C_law_pool hr (by decide) (by rfl) pass0 (pa_cons (pv 0) (pa_cons pe_int pa_nil))))
    (pss_cons (ps_set (i := 2) SC.nd rfl (.inl rfl) (pe_cal (E := E0) C_law_audience hr (by decide) (by rfl) pass0 (pa_cons (pv 1) pa_nil)))
    (pss_cons (ps_set (i := 3) SC.nd rfl (.inl rfl) (pe_make (E := E0) MK (Caud FI) (hr.mono (by decide)) (by rfl) A.g bI .nil pass0 (pa_cons (pe_ix ix_tup (pv 2) pe_int (fun _ _ => rfl)) (pa_cons (pe_ix ix_tup (pv 2) pe_int (fun _ _ => rfl)) (pa_cons (pe_ix ix_tup (pv 2) pe_int (fun _ _ => rfl)) pa_nil)))))
    (pss_cons (ps_for PassesOwn.never rfl (pi_range1 (by rfl) T.nrange (pa_cons pe_int pa_nil)) (pg_name (i := 4) SC.nd rfl (.inl rfl)) (pss_cons (ps_set (i := 5) SC.nd rfl (.inl rfl) (pe_cal (E := E0) C_law_telling hr (by decide) (by rfl) pass0 (pa_cons (pv 1) (pa_cons (pv 2) pa_nil))))
      (pss_one (ps_for PassesOwn.never rfl (pi_range1 (by rfl) T.nrange (pa_cons (pe_callB call_len_seq (by rfl) T.nlen (by decide +kernel) (pa_cons (pe_ix ix_tup (pv 2) pe_int (fun _ _ => rfl)) pa_nil)) pa_nil)) (pg_name (i := 6) SC.nd rfl (.inl rfl)) (pss_one (ps_if (pt_not (pt_val (pe_cal (E := E0) C_law_told hr (by decide) (by rfl) pass0 (pa_cons (pv 2) (pa_cons (pv 3) (pa_cons (pv 5) (pa_cons (pv 6) pa_nil))))))) (pss_one (ps_ret pe_bl)) pss_nil))))))
    (pss_cons (ps_set (i := 7) SC.nd rfl (.inl rfl) (pe_cal (E := E0) C_law_no_matrix hr (by decide) (by rfl) pass0 (pa_cons (pv 1) (pa_cons (pe_ix ix_tup (pv 2) pe_int (fun _ _ => rfl)) (pa_cons (pv 5) (pa_cons (pe_ix ix_tup (pv 2) pe_int (fun _ _ => rfl)) pa_nil))))))
    (pss_cons (ps_set (i := 8) SC.nd rfl (.inl rfl) (pe_cal (E := E0) C_law_odd hr (by decide) (by rfl) pass0 (pa_cons (pv 1) (pa_cons pe_int (pa_cons (pe_op op_sub (pe_callB call_len_seq (by rfl) T.nlen (by decide +kernel) (pa_cons (pe_ix ix_tup (pv 2) pe_int (fun _ _ => rfl)) pa_nil)) pe_int) pa_nil)))))
    (pss_cons (ps_if (pt_not (pt_val (pe_cal (E := E0) C_refM hr (by decide) (by rfl) pass0 (pa_cons (pv 3) (pa_cons (pv 7) (pa_cons (pe_ix ix_list (pe_lst (pa_cons pe_int (pa_cons (pv 8) pa_nil))) (pe_cal (E := E0) C_law_draw hr (by decide) (by rfl) pass0 (pa_cons (pv 1) (pa_cons pe_int pa_nil))) (fun _ _ => rfl)) (pa_cons pe_int (pa_cons (pv 7) pa_nil)))))))) (pss_one (ps_ret pe_bl)) pss_nil)
    (pss_one (ps_ret (pe_cal (E := E0) C_refN hr (by decide) (by rfl) pass0 (pa_cons (pv 3) (pa_cons (pv 5) (pa_cons (pv 8) (pa_cons pe_int (pa_cons (pv 8) pa_nil))))))))))))))), ?_⟩
  refine ⟨_, rfl, sa, sns, rfl, hS, hSu, hSn, fun H1 q x1 hq0 hP1 => ?_⟩
  refine ⟨_, rfl, q, rfl, hP1, fun H2 av p n ls x2 hP2 OA hAu => ?_⟩
  have tb2 : Tabs TT H2 := x2.tabs (x1.tabs tb)
  have hAu0 := hAu
  obtain ⟨a, l, rfl, ha, hls⟩ := hAu
  have n1 := OA.n1
  have n5 := OA.n5
  refine ⟨_, rfl, a, _, _, _, rfl, rfl, sqt ha, atI_nat (j := 0) rfl, _, rfl, a, _, _, _, rfl, rfl, sqt ha, atI_nat (j := 1) rfl, _, rfl, a, _, _, _, rfl, rfl, sqt ha, atI_nat (j := 2) rfl, fun hx dx hhx hdx hne => ?_⟩
  have y1 : Ext TT [] H2 (upd (upd H2 dx (.own hx)) hx (.ins CA dx [])) := (Ext.new hdx).trans (.new (by rw [upd_ne (Ne.symm hne)]; exact hhx))
  refine ⟨hx, dx, l, p, n, ls, rfl, OA.pr, n1, n5, upd_same, hls.mono y1, (fun l hl => ⟨(OA.ok l hl).1, (OA.ok l hl).2.1⟩), y1.tabs tb2, fun H4 H5 x4 h5 hoth => ⟨rfl, ?_⟩⟩
  have e5 : H5 = upd H4 hx (.ins CA dx [("p", .int p), ("size", .int ((n : Nat) : Int)), ("listeners", l)]) := by
    funext b
    by_cases hb : b = hx
    · rw [hb, upd_same]; exact h5
    · rw [upd_ne hb]; exact hoth b hb
  have x5 : Ext TT [] H2 H5 := by rw [e5]; exact (y1.trans x4).mut hhx
  have hxq : hx ≠ q := fun z => not_pool hP2 hhx (by rw [z]; simp)
  have tb5 := x5.tabs tb2
  have hP5 := (x5.up (M := [q])).poolAt hP2
  have hA5 := hAu0.mono x5
  have AuO_of : ∀ {H'}, Ext TT [q] H5 H' → AuO CA H' (.ref hx) p ((n : Nat) : Int) ls := fun {H'} x => ⟨hx, dx, l, rfl, x.ins (fun z => hxq (List.mem_singleton.mp z)) h5, (hls.mono x5).mono x⟩
  obtain ⟨a', l', ea, ha5, ⟨la, lvs, el, hla5, pl⟩⟩ := id hA5
  cases ea
  have lL := pl.length
  refine ⟨2, rfl, by decide, by decide, for_range (lo := 0) (n := 2) (fun j σ H' => (∃ y4 y5 y6, σ = [some (.ref sa), some (.ref q), some (.ref a), some (.ref hx), y4, y5, y6, none, none] ∧ (0 < j → ∃ tv R, y5 = some tv ∧ Mx H' tv R ∧ OkM p n R ∧ R.length ≤ 5)) ∧ Ext TT [q] H5 H') ⟨⟨_, _, _, rfl, fun h => absurd h (Nat.not_lt_zero _)⟩, .refl _⟩ ?_ ?_⟩
  · rintro j σ H6 hj ⟨⟨y4, y5, y6, rfl, _⟩, x6⟩
    refine ⟨_, rfl, _, rfl, q, .ref a, p, n, ls, rfl, OA, hA5.mono x6, x6.poolAt hP5, fun H7 tv R x7 hP7 hMx okR hRl => ?_⟩
    have x67 := x6.trans x7
    refine ⟨_, rfl, a, _, _, _, rfl, rfl, sqt (x67.tup _ _ ha5), atI_nat (j := 2) rfl, la, lvs, ?_, .inr (sqt (x67.tup _ _ hla5)), ((lvs.length : Nat) : Int), rfl, by have := OA.l; omega, by have := OA.l; omega, for_range (lo := 0) (n := lvs.length) (fun k σ H' => (∃ y4 y6, σ = [some (.ref sa), some (.ref q), some (.ref a), some (.ref hx), y4, some tv, y6, none, none]) ∧ Ext TT [] H7 H') ⟨⟨_, _, rfl⟩, .refl _⟩ ?_ ?_⟩
    · rw [el]
    · rintro k σ H8 hk ⟨⟨y4, y6, rfl⟩, x8⟩
      rw [Int.zero_add]
      have x58 := x67.trans (x8.up (M := [q]))
      exact ⟨_, rfl, _, rfl, _, rfl, _, rfl, .ref a, .ref hx, tv, p, n, ls, R, k, rfl, x58.tabs tb5, OA, hA5.mono x58, AuO_of x58, hMx.mono x8, okR, hRl, by omega, fun H9 x9 => ⟨true, rfl, iteF ⟨⟨_, _, rfl⟩, x8.trans x9⟩⟩⟩
    · rintro σ H8 ⟨⟨y4, y6, rfl⟩, x8⟩
      exact ⟨⟨_, _, _, rfl, fun _ => ⟨tv, R, rfl, hMx.mono x8, okR, hRl⟩⟩, x67.trans (x8.up (M := [q]))⟩
  · rintro σ H6 ⟨⟨y4, y5, y6, rfl, hy5⟩, x6⟩
    obtain ⟨tv, R, rfl, hMx, okR, hRl⟩ := hy5 (by decide)
    refine ⟨_, rfl, _, rfl, a, _, _, _, rfl, rfl, sqt (x6.tup _ _ ha5), atI_nat (j := 0) rfl, _, rfl, _, rfl, a, _, _, _, rfl, rfl, sqt (x6.tup _ _ ha5), atI_nat (j := 1) rfl, q, tv, p, n, R, rfl, OA.pr, n1, n5, by omega, okR, hMx, x6.poolAt hP5, fun H7 bad x7 hP7 hbad => ?_⟩
    have x67 := x6.trans x7
    refine ⟨_, rfl, _, rfl, a, _, _, _, rfl, rfl, sqt (x67.tup _ _ ha5), atI_nat (j := 2) rfl, la, lvs, by rw [el], .inr (sqt (x67.tup _ _ hla5)), _, _, rfl, rfl, q, ((lvs.length : Nat) : Int) - 1, rfl, hP7, by omega, by have := OA.l; omega, fun H8 od x8 hP8 hod hodl => ?_⟩
    have x68 := x67.trans x8
    have ebl : letB od ((ls.length : Nat) : Int) = false := by
      rw [← lL]
      have : (((lvs.length : Nat) : Int) - 1 + 1) = ((lvs.length : Nat) : Int) := by omega
      rw [this] at hodl
      exact hodl
    refine ⟨_, rfl, _, rfl, _, rfl, by show 2 ≤ sizeLine; decide, fun t ht => ⟨_, rfl, q, 2, rfl, (Ext.new (T := TT) (M := [q]) ht).poolAt hP8, by decide, fun H9 r x9 hP9 r0 r1 => ?_⟩⟩
    obtain ⟨y, hy, ey⟩ := pickV (xs := [.int 0, od]) r0 (by show r < ((2 : Nat) : Int); exact r1)
    have xt : Ext TT [q] H8 (upd H8 t (.lst [.int 0, od])) := .new ht
    have x79 := (x8.trans xt).trans x9
    have x59 := x67.trans x79
    have htq : t ≠ q := fun z => not_pool hP8 ht (by rw [z]; simp)
    refine ⟨t, _, r, y, rfl, rfl, sql (x9.lstq htq upd_same), ey, _, rfl, .ref hx, bad, y, bad, rfl, (hbad.mono x79).t2.up, fun Q' E' he => ⟨.ref hx, bad, y, p, n, ls, rfl, AuO_of x59, x59.tabs tb5, .inl ⟨(hbad.mono x79).mat, fun H' d x hd e => he H' d x hd e⟩⟩, fun H10 x10 => ⟨true, rfl, iteF ?_⟩⟩
    have x8a := (xt.trans x9).trans (x10.up (M := [q]))
    have x5a := x68.trans x8a
    have od' := hod.mono x8a
    exact ⟨_, rfl, _, rfl, _, rfl, _, rfl, .ref hx, tv, od, od, rfl, od'.up, fun Q' E' he => ⟨.ref hx, tv, od, p, n, ls, rfl, AuO_of x5a, x5a.tabs tb5, .inr ⟨.mx (hMx.mono ((x7.trans x8).trans x8a)) okR, od'.kd, ebl, fun H' d x hd e => he H' d x hd e⟩⟩, fun H' _ => Qq H'⟩
end
end K17
end

section
set_option linter.all false
set_option maxRecDepth 100000
set_option maxHeartbeats 2000000
namespace K17
open PySem PySem.Spec PyProof.Rows L2 G17 M17
open GxR (TabG Tabbed)
open LamX (TabB)
/-- the defs of the text: the module's name, its own name, its place -/
def defsL : List (Str × Str × Nat) := [("is_letter", "is_letter", 21), ("is_field", "is_field", 22), ("inverse_of", "inverse_of", 23), ("_check", "_check", 28), ("_less", "_less", 29), ("_reduced", "_reduced", 30), ("_first_place", "_first_place", 31), ("sum_to", "sum_to", 32),
  ("is_listener_tellings", "is_listener", 34), ("look_at_rows", "look_at_rows", 36), ("decoder_of", "decoder_of", 37), ("_law_pool", "_law_pool", 43), ("_law_draw", "_law_draw", 44), ("_law_same", "_law_same", 45), ("_law_kinds", "_law_kinds", 46), ("_law_alone", "_law_alone", 47),
  ("_law_odd", "_law_odd", 48), ("_law_reduced", "_law_reduced", 49), ("_law_spanned", "_law_spanned", 50), ("_law_matrix", "_law_matrix", 51), ("_law_arcs", "_law_arcs", 52), ("_law_knows", "_law_knows", 53), ("_law_audience", "_law_audience", 54), ("_law_fitting", "_law_fitting", 55),
  ("_law_telling", "_law_telling", 56), ("_law_spoilt", "_law_spoilt", 57), ("_law_no_matrix", "_law_no_matrix", 58), ("_law_serves", "_law_serves", 59), ("_law_decodes", "_law_decodes", 60), ("_law_refused", "_law_refused", 61), ("_law_told", "_law_told", 62), ("law", "law", 63)]
/-- the three defs with a comprehension's table -/
def defsT : List (Str × Str × Nat) := [("is_row", "is_row", 26), ("is_matrix", "is_matrix", 27), ("is_listener_audiences", "is_listener", 39)]
structure Facts (K : PySem.W.Frag) (mg : Str → Option Value) (CA CN CM CU : Addr) (cs : List (Addr × Addr)) : Prop where
  T : Bl K mg
  nVE : mg "ValueError" = none
  A : AuC K mg CA
  UN : EC K mg "InvalidNumber" "InvalidNumber.__init__" "value" (methS 3) CN
  UM : EC K mg "InvalidMatrix" "InvalidMatrix.__init__" "value" (methS 4) CM
  UU : EC K mg "Undefined" "Undefined.__init__" "what" (methS 17) CU
  kN : EK K mg "InvalidNumber" CN
  kM : EK K mg "InvalidMatrix" CM
  kU : EK K mg "Undefined" CU
  d : ∀ (k : Nat) (q : Str × Str × Nat), defsL[k]? = some q → ∃ f fd, FunAt K mg q.1 q.2.1 (topS q.2.2) f fd
  t : ∀ (k : Nat) (q : Str × Str × Nat), defsT[k]? = some q → ∃ p : Addr × Addr, cs[k]? = some p ∧ ∃ f fd, FunAt K mg q.1 q.2.1 (topS q.2.2) f fd ∧ fd.code = .ref p.1
section
variable {P : Program} {w : World} {K : PySem.W.Frag} {mg : Str → Option Value} {base : Heap} {CA CN CM CU : Addr} {cs : List (Addr × Addr)}
theorem Facts.f (F : Facts K mg CA CN CM CU cs) (k : Nat) {x nm : Str} {i : Nat} (h : defsL[k]? = some (x, nm, i) := by rfl) : ∃ f fd, FunAt K mg x nm (topS i) f fd := F.d k _ h
theorem law_all {f0 : Addr} {fd0 : FuncData} (F : Facts K mg CA CN CM CU cs) (F0 : FunAt K mg "law" "law" (topS 63) f0 fd0) (TB : ∀ p ∈ cs, TabB base mg p.1 p.2) : FnOk P w K mg base CX0 11 f0 fd0 ["_law_script"] (sp_law K (cs.map (·.2))) := by
  obtain ⟨p1, q1, F1⟩ := F.t 0 _ rfl
  obtain ⟨p2, q2, F2⟩ := F.t 1 _ rfl
  obtain ⟨p3, q3, F3⟩ := F.t 2 _ rfl
  have m1 := List.mem_of_getElem? q1
  have m2 := List.mem_of_getElem? q2
  have m3 := List.mem_of_getElem? q3
  have T := F.T
  have A := F.A
  have i_letter := c_is_letter (P := P) (w := w) (base := base) (F.f 0) T
  have i_field := c_is_field (P := P) (w := w) (base := base) (F.f 1) T
  have i_inv := c_inverse_of (F.f 2) T i_letter i_field
  have i_row := c_is_row F1 (TB _ m1) (List.mem_map_of_mem (f := (·.2)) m1) T i_letter
  have i_matrix := c_is_matrix F2 (TB _ m2) (List.mem_map_of_mem (f := (·.2)) m2) T i_row
  have i_lis := c_is_lis F3 (TB _ m3) (List.mem_map_of_mem (f := (·.2)) m3) T i_matrix
  have i_check := c_check (F.f 3) T i_field i_matrix
  have i_less := c_less (P := P) (w := w) (base := base) (TT := cs.map (·.2)) (F.f 4) T
  have i_red := c_reduced (F.f 5) T i_less i_inv
  have i_first := c_first_place (P := P) (w := w) (base := base) (F.f 6) T
  have i_sum := c_sum_to (F.f 7) T F.UU i_check i_red i_first
  have i_lt := c_is_lt (P := P) (w := w) (base := base) (F.f 8) T A
  have i_look := c_look (F.f 9) T A F.UM i_matrix
  have i_decA := c_decA (F.f 10) T A F.UN i_look i_lt
  have i_decB := c_decB (F.f 10) T A F.UU i_look i_lt i_sum
  have l_pool := c_pool (P := P) (w := w) (base := base) (TT := cs.map (·.2)) (F.f 11) T
  have l_draw := c_draw (P := P) (w := w) (base := base) (TT := cs.map (·.2)) (F.f 12) T
  have l_s0 := c_same0 (P := P) (w := w) (base := base) (TT := cs.map (·.2)) (fun _ => True) (F.f 13) T
  have l_s1 := c_same0 (P := P) (w := w) (base := base) (TT := cs.map (·.2)) hotP (F.f 13) T
  have l_s2 := c_same_up (R := fun _ => Sc) (fun _ h => h) (F.f 13) T l_s1
  have l_s3 := c_same_up (R := Up fun _ => Sc) (fun x h => Up.mono (TT := cs.map (·.2)) (R := fun _ => Sc) (fun _ h => h) x h) (F.f 13) T l_s2
  have l_kinds := c_kinds (P := P) (w := w) (base := base) (TT := cs.map (·.2)) (F.f 14) T
  have l_alone := c_alone (F.f 15) T F.nVE l_kinds
  have l_odd := c_odd (F.f 16) T l_draw
  have l_red := c_lred (P := P) (w := w) (base := base) (TT := cs.map (·.2)) (F.f 17) T
  have l_span := c_span (F.f 18) T l_red
  have l_mat := c_mat (F.f 19) T l_draw
  have l_arcs := c_arcs (F.f 20) T l_draw
  have l_knows := c_knows (P := P) (w := w) (base := base) (TT := cs.map (·.2)) (F.f 21) T
  have l_laud := c_laud (F.f 22) T l_draw l_mat l_arcs l_knows
  have l_fit := c_fit (F.f 23) T l_draw
  have l_tell := c_tell (F.f 24) T l_draw l_mat l_fit
  have l_spoil := c_spoil (F.f 25) T l_draw
  have l_nomat := c_nomat (F.f 26) T l_draw l_spoil
  have l_serv := c_serv (F.f 27) T l_red l_span
  have l_decs := c_decs (P := P) (w := w) (base := base) (TT := cs.map (·.2)) (F.f 28) T
  have l_refM := c_refA (F.f 29) T F.UM (.inr (.inl ⟨rfl, rfl⟩)) (by decide) F.kM i_decA l_alone l_s3
  have l_refN := c_refA (F.f 29) T F.UN (.inl ⟨rfl, rfl⟩) (by decide) F.kN i_decA l_alone l_s3
  have l_refB := c_refB (F.f 29) T F.UU F.kU i_decB l_alone l_s0
  have l_told := c_told (F.f 30) T l_serv l_refB i_decB l_decs
  exact c_law F0 T A l_pool l_draw l_laud (fun FI => c_aud FI A T i_field i_letter i_lis) l_tell l_told l_nomat l_odd l_refM l_refN
end
end K17
end

section
set_option linter.all false
set_option maxRecDepth 100000
set_option maxHeartbeats 0
namespace K17
open PySem PySem.Spec PyProof.Rows L2
/-! ### what is looked at behind the top -/
def exoB (K : PySem.W.Frag) (C : Addr) : Bool := match K.lookup C with
  | some ⟨.type "type", _, .cls cd, sl⟩ => (match cd.mro, sl.toList with
    | .ref C' :: bm, [_, _, _, _, some (.builtin n), _] => C' == C && (n == "ValueError.__new__" && (!cd.hasDel && (cd.hasDict && PySem.HandSPX.refsVE bm)))
    | _, _ => false)
  | _ => false
def eqF (a b : Option (Option Value)) : Bool := decide (a = b)
def ecB (K : PySem.W.Frag) (nm fld : Str) : Bool :=
  exoB K (He.ga K nm) && (eqF (PySem.W.findIn K (.ref (He.ga K nm)) "__setattr__") (some (some (.builtin "object.__setattr__"))) && (decide (PySem.W.subIn K (.ref (He.ga K nm)) (.type "BaseException") = some true) && (decide (PySem.W.typeIn K (.ref (He.ga K nm)) = some (.type "type")) && (PySem.W.keepIn K (.ref (He.ga K nm)) && (eqF (PySem.W.findIn K (.ref (He.ga K nm)) fld) (some none) &&
  (xfB K (He.ga K nm) && (eqF (PySem.W.findIn K (.ref (He.ga K nm)) "__class__") (some (some (.builtin "object.__class__"))) && (eqF (PySem.W.specialIn K (.builtin "object.__class__") "__get__") (some (some (.builtin "getset_descriptor.__get__"))) && (decide (PySem.W.takesIn K (.builtin "object.__class__") = some true) && (decide (PySem.W.mroIn K (He.ga K nm) (.type "object") = some true) &&
  (decide (PySem.W.subIn K (.ref (He.ga K nm)) (.ref (He.ga K nm)) = some true) && (eqF (PySem.W.findIn K (.ref (He.ga K nm)) "__init__") (some (some (.ref (He.ma K (He.ga K nm) "__init__")))) && (decide (PySem.W.typeIn K (.ref (He.ma K (He.ga K nm) "__init__")) = some (.type "function")) && eqF (PySem.W.nsIn K mainGlobals nm) (some (some (.ref (He.ga K nm)))))))))))))))))
def ekB (K : PySem.W.Frag) (nm : Str) : Bool :=
  (names16.all fun x => eqF (PySem.W.nsIn K mainGlobals x) (some (some (.ref (He.ga K x)))) && decide (PySem.W.kitOne K (.ref (He.ga K nm)) (.ref (He.ga K x)) = some (decide (x = nm)))) &&
  (eqF (PySem.W.nsIn K mainGlobals "SayError") (some (some (.ref (He.ga K "SayError")))) && (decide (PySem.W.kitOne K (.ref (He.ga K nm)) (.ref (He.ga K "SayError")) = some true) && (decide (PySem.W.exmOne K (.ref (He.ga K nm)) (.ref (He.ga K "SayError")) = some true) && decide (PySem.W.kitOne K (.ref (He.ga K nm)) (.type "ValueError") = some true))))
def exB (K : PySem.W.Frag) : Bool := He.tupB K "PRIMES" [.int 2, .int 3, .int 5, .int 7, .int 11, .int 13] && (ecB K "InvalidNumber" "value" && (ecB K "InvalidMatrix" "value" && (ecB K "Undefined" "what" && (ekB K "InvalidNumber" && (ekB K "InvalidMatrix" && ekB K "Undefined")))))
abbrev two {a b : Bool} (h : (a && b) = true) : a = true ∧ b = true := Bool.and_eq_true_iff.mp h
theorem exoB_ok {K : PySem.W.Frag} {C : Addr} (q : exoB K C = true) : ∃ nm q N bs bm sn sub ab col dd k0 k1 k2 k3 k5, K.lookup C = some (excClassObj nm q C N bs bm true sn sub ab col dd k0 k1 k2 k3 k5 "ValueError.__new__") ∧ PySem.HandSPX.refsVE bm = true := by
  unfold exoB at q
  split at q
  · rename_i dd cd sl ho
    split at q
    · rename_i C' bm k0 k1 k2 k3 n k5 hm hs
      simp only [Bool.and_eq_true, beq_iff_eq, Bool.not_eq_true'] at q
      obtain ⟨rfl, rfl, hdel, hd0, hr⟩ := q
      obtain ⟨nm, bs, mro, ns, qn, hd, sn, sub, ab, col, del⟩ := cd
      dsimp only at hm hdel hd0
      subst hm hdel hd0
      have hsl : sl = #[k0, k1, k2, k3, some (.builtin "ValueError.__new__"), k5] := by
        obtain ⟨l⟩ := sl
        simp only at hs
        rw [hs]
      subst hsl
      exact ⟨nm, qn, ns, bs, bm, sn, sub, ab, col, dd, k0, k1, k2, k3, k5, ho, hr⟩
    · cases q
  · cases q
section
variable {K : PySem.W.Frag} {h : Heap} {mg : Str → Option Value}
theorem ecB_ok {nm q fld : Str} {st : Stmt} (X : K.In h) (G : h.Ns mainGlobals mg) (e : ecB K nm fld = true) (F : ∃ fd, FunD K "__init__" q (defArgs st) (defBody st) (defScope st) [] [] (He.ma K (He.ga K nm) "__init__") fd) : EC K mg nm q fld st (He.ga K nm) := by
  obtain ⟨e1, e⟩ := two e
  obtain ⟨e2, e⟩ := two e
  obtain ⟨e3, e⟩ := two e
  obtain ⟨e4, e⟩ := two e
  obtain ⟨e5, e⟩ := two e
  obtain ⟨e6, e⟩ := two e
  obtain ⟨e7, e⟩ := two e
  obtain ⟨e8, e⟩ := two e
  obtain ⟨e9, e⟩ := two e
  obtain ⟨e10, e⟩ := two e
  obtain ⟨e11, e⟩ := two e
  obtain ⟨e12, e⟩ := two e
  obtain ⟨e13, e⟩ := two e
  obtain ⟨e14, e15⟩ := two e
  have xf := xfB_ok e7
  obtain ⟨fd, FD⟩ := F
  exact ⟨PySem.W.mg_of X G (of_decide_eq_true e15), ⟨exoB_ok e1, of_decide_eq_true e2, of_decide_eq_true e3, of_decide_eq_true e4, e5⟩, of_decide_eq_true e6, xf, ⟨xf.ga, xf.gg, xf.exC, xf.hdC, of_decide_eq_true e8, of_decide_eq_true e9, of_decide_eq_true e10, of_decide_eq_true e11⟩, of_decide_eq_true e12, ⟨_, fd, of_decide_eq_true e13, of_decide_eq_true e14, FD⟩⟩
theorem ekB_ok {nm : Str} {C : Addr} (X : K.In h) (G : h.Ns mainGlobals mg) (e : ekB K nm = true) (is : ExcC K (He.ga K nm)) : EK K mg nm (He.ga K nm) := by
  obtain ⟨e1, e⟩ := two e
  obtain ⟨e2, e⟩ := two e
  obtain ⟨e3, e⟩ := two e
  obtain ⟨e4, e5⟩ := two e
  refine ⟨is, fun x hx => ?_, ⟨_, PySem.W.mg_of X G (of_decide_eq_true e2), of_decide_eq_true e3, of_decide_eq_true e4⟩, of_decide_eq_true e5⟩
  obtain ⟨a1, a2⟩ := two (List.all_eq_true.mp e1 x hx)
  exact ⟨_, PySem.W.mg_of X G (of_decide_eq_true a1), of_decide_eq_true a2⟩
end
/-! ### the head's lists -/
def ofTop (q : Str × Str × Nat) : He.DefD := ⟨(q.1, none), q.2.1, q.2.1, defArgs (topS q.2.2), defBody (topS q.2.2), defScope (topS q.2.2), [], []⟩
def ofMeth (C : Str) (q : Str) (i : Nat) : He.DefD := ⟨(C, some "__init__"), "__init__", q, defArgs (methS i), defBody (methS i), defScope (methS i), [], []⟩
def fn : List He.DefD := [ofMeth "InvalidNumber" "InvalidNumber.__init__" 3, ofMeth "InvalidMatrix" "InvalidMatrix.__init__" 4, ofMeth "Undefined" "Undefined.__init__" 17, ofMeth "Audience" "Audience.__init__" 41] ++ (defsT ++ defsL).map ofTop
def fa : List He.Fa := [.free "len", .free "range", .free "zip", .free "enumerate", .free "isinstance", .free "tuple", .free "list", .free "int", .free "bool", .free "str", .free "abs", .free "min", .free "sum", .free "sorted", .free "all", .free "ValueError",
  .int "MOST_COLUMNS" 12, .glo "PRIMES", .glo "Audience", .cls "Audience", .noat "Audience" "p", .noat "Audience" "size", .noat "Audience" "listeners", .mkr "Audience"] ++ (defsT ++ defsL).map fun q => .glo q.1
def tf : List He.Defn := defsT.map fun q => (q.1, none)
theorem funD_code {nm q : Str} {ps : Arguments} {b : List Stmt} {sc : Scope} {p : Str × Option Str} {fd : FuncData} {K : PySem.W.Frag} (F : FunD K nm q ps b sc [] [] (He.fAd K p) fd) : fd.code = .ref (He.codeOf K p) := by
  obtain ⟨⟨oc, od, dV, kV, doc, pm, an, cdv, ct, osl, e, lk, cd, _⟩, _⟩ := F
  obtain ⟨c, hc⟩ := He.codeIn_ref cd
  have e2 : fd.code = .ref c := by rw [e]; exact hc
  rw [e2, He.codeOf_eq lk e2]
theorem facts {w : World} {K : PySem.W.Frag} {h : Heap} {mg : Str → Option Value} (X : K.In h) (G : h.Ns mainGlobals mg) (c : He.SaysX fa fn [] tf exB w h K) :
    Facts K mg (He.ga K "Audience") (He.ga K "InvalidNumber") (He.ga K "InvalidMatrix") (He.ga K "Undefined") (tf.map (He.cT K)) := by
  have D : He.SaysD fa fn K := c.t.d
  obtain ⟨x1, e⟩ := two c.more
  obtain ⟨x2, e⟩ := two e
  obtain ⟨x3, e⟩ := two e
  obtain ⟨x4, e⟩ := two e
  obtain ⟨x5, e⟩ := two e
  obtain ⟨x6, x7⟩ := two e
  have U1 : EC K mg "InvalidNumber" "InvalidNumber.__init__" "value" (methS 3) _ := ecB_ok X G x2 (D.def_ 0 (d := ofMeth "InvalidNumber" "InvalidNumber.__init__" 3) rfl)
  have U2 : EC K mg "InvalidMatrix" "InvalidMatrix.__init__" "value" (methS 4) _ := ecB_ok X G x3 (D.def_ 1 (d := ofMeth "InvalidMatrix" "InvalidMatrix.__init__" 4) rfl)
  have U3 : EC K mg "Undefined" "Undefined.__init__" "what" (methS 17) _ := ecB_ok X G x4 (D.def_ 2 (d := ofMeth "Undefined" "Undefined.__init__" 17) rfl)
  obtain ⟨fdI, FI⟩ := D.def_ 3 (d := ofMeth "Audience" "Audience.__init__" 41) rfl
  have fr : ∀ (k : Nat) {x : Str}, fa[k]? = some (.free x) → mg x = none := fun k x hk => He.free_ok X G (D.fact k hk)
  have gl : ∀ (k : Nat) {x : Str}, fa[k]? = some (.glo x) → mg x = some (.ref (He.ga K x)) := fun k x hk => He.glo_ok X G (D.fact k hk)
  refine ⟨⟨fr 0 rfl, fr 1 rfl, fr 2 rfl, fr 3 rfl, fr 4 rfl, fr 5 rfl, fr 6 rfl, fr 7 rfl, fr 8 rfl, fr 9 rfl, fr 10 rfl, fr 11 rfl, fr 12 rfl, fr 13 rfl, fr 14 rfl, He.int_ok X G (D.fact 16 (f := .int "MOST_COLUMNS" 12) rfl), ⟨_, gl 17 rfl, fun H => He.tupB_ok x1 H⟩⟩, fr 15 rfl,
    ⟨gl 18 rfl, He.cls_ok (D.fact 19 (f := .cls "Audience") rfl), He.noat_ok (D.fact 20 (f := .noat "Audience" "p") rfl), He.noat_ok (D.fact 21 (f := .noat "Audience" "size") rfl), He.noat_ok (D.fact 22 (f := .noat "Audience" "listeners") rfl), _, fdI, He.mkr_ok (D.fact 23 (f := .mkr "Audience") rfl), FI⟩,
    U1, U2, U3, ekB_ok (C := 0) X G x5 U1.is, ekB_ok (C := 0) X G x6 U2.is, ekB_ok (C := 0) X G x7 U3.is, fun k q hq => ?_, fun k q hq => ?_⟩
  · have m : q ∈ defsT ++ defsL := List.mem_append_right _ (List.mem_of_getElem? hq)
    obtain ⟨fd, F⟩ := D.defs (d := ofTop q) (List.mem_append_right _ (List.mem_map_of_mem m))
    exact ⟨_, fd, F, He.glo_ok X G (D.facts (f := .glo q.1) (List.mem_append_right _ (List.mem_map.mpr ⟨q, m, rfl⟩)))⟩
  · have m : q ∈ defsT ++ defsL := List.mem_append_left _ (List.mem_of_getElem? hq)
    obtain ⟨fd, F⟩ := D.defs (d := ofTop q) (List.mem_append_right _ (List.mem_map_of_mem m))
    refine ⟨He.cT K (q.1, none), ?_, _, fd, ⟨F, He.glo_ok X G (D.facts (f := .glo q.1) (List.mem_append_right _ (List.mem_map.mpr ⟨q, m, rfl⟩)))⟩, funD_code F⟩
    unfold tf
    rw [List.getElem?_map, List.getElem?_map, hq]
    rfl
/-! ### the law at the head's heap -/
theorem sq_upd {K : PySem.W.Frag} {H : Hp} {a l : Addr} {o : HO} {xs : List V} (h : SqL K H a xs) (n : H l = none) : SqL K (upd H l o) a xs := by
  rcases h with (h | ⟨u, h⟩) | h
  · exact .inl (.inl ((upd_ne (ne_of_none h n)).trans h))
  · exact .inl (.inr ⟨u, (upd_ne (ne_of_none h n)).trans h⟩)
  · exact .inr h
theorem law_at {w : World} {K : PySem.W.Frag} {h : Heap} {mg : Str → Option Value} {f : Addr} (X : K.In h) (G : h.Ns mainGlobals mg) (c : He.SaysX fa fn [] tf exB w h K) (hf : mg "law" = some (.ref f)) :
    LamX.LawAtS PySem.Challenge.rw_keptandsaid_k17_decoders w K CX0 11 63 "_law_script" mg f h := by
  have F := facts X G c
  have tb : ∀ p ∈ tf.map (He.cT K), h.get? p.2 = some { cls := .none, data := .fields #[] } := fun p hp => by
    obtain ⟨d, hd, rfl⟩ := List.mem_map.mp hp
    exact c.empty d hd
  obtain ⟨f', fd, FF, gf⟩ := F.f 31
  have ef : f' = f := by
    have := gf.symm.trans hf
    cases this
    rfl
  subst ef
  refine ⟨fd, tf.map (He.cT K), sp_law K ((tf.map (He.cT K)).map (·.2)), tb, fun p hp => ?_, fun p hp => ?_, ?_, fun H a ns hl _ ht hS => ?_, fun base Xb Gb TB => ?_⟩
  · obtain ⟨d, hd, rfl⟩ := List.mem_map.mp hp
    exact c.out d hd
  · obtain ⟨d, hd, rfl⟩ := List.mem_map.mp hp
    exact PySem.W.codeHd_of_K X (c.hd d hd)
  · have b := FunD.bindsA (ps := ["_law_script"]) FF fun _ _ _ _ _ _ us hl => match us, hl with | [_], _ => rfl
    exact fun s v => b s [v] rfl
  · refine ⟨a, ns, rfl, hS, fun l o n => sq_upd hS n, hl, fun P hP => ?_, fun _ => rfl⟩
    obtain ⟨p, hp, rfl⟩ := List.mem_map.mp hP
    exact ⟨#[], ht p hp, by first | trivial | exact fun _ h => by cases h⟩
  · exact law_all (P := PySem.Challenge.rw_keptandsaid_k17_decoders.prog) (w := w) (base := base) F ⟨FF, gf⟩ TB
end K17
end

section
set_option linter.all false
set_option maxRecDepth 100000
set_option maxHeartbeats 0
namespace K17
open PySem PySem.Spec PyProof.Rows L2
abbrev lawRow : PySem.W.OpenRow := PySem.W.OpenLaw.row PySem.Challenge.rw_keptandsaid_k17_decoders
abbrev hk17 : PySem.W.Hook := He.hookX 5 fa fn [] tf exB
def ob17 (s : PySem.W.SharedT) : He.AlX := He.obsX 5 fa fn [] tf exB (HandSHeadRun.getT s)
theorem ob17_eq (s : PySem.W.SharedT) : ob17 s = hk17.obs s.abs := He.obsX_eq (HandSHeadRun.getT_eq s)
def la : List Str := ["_wall", "SayError", "InvalidNumber", "InvalidMatrix", "InvalidAudience", "InvalidNet", "InvalidLot", "InvalidWord", "InvalidWords", "InvalidSignals", "InvalidLosses", "InvalidDeed", "InvalidText", "InvalidLine", "UnknownWord", "TooMany", "Undefined", "NothingToUndo", "PRIMES", "is_letter", "is_field", "inverse_of", "MOST_COLUMNS"]
def lb : List Str := ["is_row", "is_matrix", "_check", "_less", "_reduced", "_first_place", "sum_to", "is_listener", "is_listener_tellings", "look_at_rows", "decoder_of", "is_listener_audiences", "Audience", "_law_pool", "_law_draw", "_law_same", "_law_kinds", "_law_alone", "_law_odd", "_law_reduced"]
def lc : List Str := ["_law_spanned", "_law_matrix", "_law_arcs", "_law_knows", "_law_audience", "_law_fitting", "_law_telling", "_law_spoilt", "_law_no_matrix", "_law_serves", "_law_decodes", "_law_refused", "_law_told", "__name__"]
def loose17 : List Str := la ++ (lb ++ lc)
theorem run17 (w : World) : HandSHeadRun.RunEq lawRow (PySem.W.view lawRow.prog [63]) hk17 ob17 60000 loose17 w := by
  intro os
  kernel_rfl
end K17
end

section
set_option linter.all false
set_option maxRecDepth 100000
set_option maxHeartbeats 0
open PySem PySem.W PySem.Calls PyProof.Rows
theorem PySem.Challenge.cw_keptandsaid_k17_decoders_holds : PySem.Challenge.rw_keptandsaid_k17_decoders.Holds := by
  w_on; o_law
  refine HandSHeadRun.head_any (r := OpenLaw.row PySem.Challenge.rw_keptandsaid_k17_decoders) (q := view (OpenLaw.row PySem.Challenge.rw_keptandsaid_k17_decoders).prog [63]) (H := K17.hk17) (ob := K17.ob17) (M := 60000) (loose := K17.loose17) (d := HandSHeadRun.topDef (OpenLaw.row PySem.Challenge.rw_keptandsaid_k17_decoders).prog 63) (kwd := []) K17.ob17_eq
    (by kernel_rfl) (fun s => by kernel_rfl) K17.run17 (by kernel_rfl) (by kernel_rfl) (by kernel_rfl) (by rfl) (by first | assumption | decide +kernel) (by decide +kernel) ⟨rfl, rfl, rfl, rfl, rfl, by decide +kernel⟩ ?hw ?hc
  case hw => w_witness2
  case hc =>
    refine LamX.walk_ofTsE (l := PySem.Challenge.rw_keptandsaid_k17_decoders) (n := 63) (k := 11) (x := "_law_script") (CX := fun _ => L2.CX0) rfl (by decide) (by kernel_rfl) ⟨rfl, by decide, by decide⟩ ?F (fun _ _ _ _ _ z => z)
    intro w mg fa h Y G hmg0
    obtain ⟨K, KX, c⟩ := Y
    have hmg : mg ("law" : PySem.Str) = some (.ref fa) := by
      have e : (HandSHeadRun.topDef (OpenLaw.row PySem.Challenge.rw_keptandsaid_k17_decoders).prog 63).name = ("law" : PySem.Str) := by kernel_rfl
      rw [← e]
      exact hmg0
    exact ⟨K, KX, K17.law_at KX G c hmg⟩
end
