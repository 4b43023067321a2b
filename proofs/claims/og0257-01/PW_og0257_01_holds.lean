import PyProof.Rows.All
import Wide.All
import OpenK.AllK
import Wide.FinOn
import PySem.Challenge.RW_og0257_01
set_option Elab.async false
set_option linter.all false
open PySem PySem.W PyProof.Rows
namespace Mine
section
def runG (ok : Thread → Bool) (st : SharedT → Thread → Option (SharedT × Thread)) : Nat → SharedT → Thread → Option SharedT
  | 0, _, _ => none
  | n + 1, s, t => match through t with
    | true => some s
    | false => match ok t with
      | false => none
      | true => match st s t with
        | some (s', t') => runG ok st n s' t'
        | none => none
theorem runG_top {p : Program} {w : World} {n₀ : Nat} {ann : Option Value} : ∀ {n : Nat} {s s' : SharedT} {t : Thread}, runG (stepOk n₀ ann) (stepT (denote treeTable) p w) n s t = some s' → topRun treeTable p w n₀ ann n s.abs t = some s'.abs
  | 0, _, _, _, h => by cases h
  | n + 1, s, s', t, h => by
    unfold runG at h
    unfold topRun
    cases he : through t with
    | true => rw [he] at h; cases h; rfl
    | false =>
      rw [he] at h
      cases hk : stepOk n₀ ann t with
      | false => rw [hk] at h; cases h
      | true =>
        rw [hk] at h
        cases hs : stepT (denote treeTable) p w s t with
        | none => rw [hs] at h; cases h
        | some r => obtain ⟨s₂, t₂⟩ := r; rw [hs] at h; rw [stepT_spec hs]; exact runG_top h
noncomputable def bootT (P : Params) : BT := (boot_heap P).objs.toList.zipIdx.foldl (fun t p => t.ins p.2 p.1) .nil
noncomputable def start0 (w : World) (os : OsState) : SharedT := ⟨bootT w.params, 11, {}, Array.mk [], {}, 181, os⟩
theorem bootT_abs (w : World) (os : OsState) : (start0 w os).abs = ⟨boot_heap w.params, Array.mk [], boot_drawn, boot_toks, os⟩ := by
  kernel_rfl
noncomputable def pr : Program := PySem.Challenge.rw_og0257_01.row.prog
noncomputable def finalN (w : World) (os : OsState) : Option SharedT := runG (stepOk 11 (some (.ref 6))) (stepT (denote treeTable) pr w) 5056 (start0 w os) (topStub pr)
theorem left_of {p q : Program} {loose : List Str} {Xt : Shared → Bool} {α : Type} {Yf : Shared → α} {Ya : World → α} {N : Nat}
    (e : opening p = plainProg p.main.scope.names) (hN : Nat.ble 600 N = true) (f : ∀ s, fenceModules? p s = some s)
    (z : ∀ w : World, ((boot_heap w.params).isNs mainGlobals && (Array.mk [] : Array GenState).size == 0, (boot_heap w.params).objs.size, (boot_heap w.params).nsMap mainGlobals "__annotations__") = (true, 11, some (.ref 6)))
    (cA : ∀ w : World, (fun os => (runG (stepOk 11 (some (.ref 6))) (stepT (denote treeTable) p w) N (start0 w os) (topStub p)).map fun S => Yf S.abs) = fun _ => some (Ya w))
    (cB : ∀ w : World, (fun os => (runG (stepOk 11 (some (.ref 6))) (stepT (denote treeTable) p w) N (start0 w os) (topStub p)).map fun S =>
      (staticsOk (importedModules p.main.body) (boot_heap w.params) S.abs.heap && namesBound p S.abs.heap && gensDone S.abs && laidKept (boot_heap w.params) S.abs.heap, openSeen q loose (importedModules p.main.body) Xt true S.abs)) =
        fun _ => some (true, openGood q loose)) : LeftO p q loose Xt Yf Ya N := fun w => by
  obtain ⟨⟨h, gs, d, k, os⟩, e1, e2⟩ := Option.map_eq_some_iff.mp (boot_open e hN f w)
  obtain ⟨rfl, rfl, rfl, rfl⟩ : h = boot_heap w.params ∧ gs = Array.mk [] ∧ d = boot_drawn ∧ k = boot_toks := by simpa using e2
  obtain ⟨z1, z2, z3⟩ : _ ∧ _ ∧ _ := by simpa only [Prod.mk.injEq] using z w
  obtain ⟨S, r, l3⟩ := Option.map_eq_some_iff.mp (congrFun (cA w) os)
  obtain ⟨S', r₂, l⟩ := Option.map_eq_some_iff.mp (congrFun (cB w) os)
  obtain rfl : S = S' := Option.some.inj (r.symm.trans r₂)
  obtain ⟨l1, l2⟩ : _ ∧ _ := by simpa only [Prod.mk.injEq] using l
  have r' := runG_top r
  rw [bootT_abs] at r'
  have t : topFrom treeTable p w N ⟨boot_heap w.params, Array.mk [], boot_drawn, boot_toks, os⟩ = some S.abs := by
    unfold topFrom
    dsimp only
    rw [z1, z2, z3, r']
    show (match staticsOk (importedModules p.main.body) (boot_heap w.params) S.abs.heap && namesBound p S.abs.heap && gensDone S.abs && laidKept (boot_heap w.params) S.abs.heap with | true => _ | false => _) = _
    rw [l1]
  unfold openEnds
  rw [e1]
  show (topFrom treeTable p w N _).map _ = _
  rw [t]
  exact congrArg some (Prod.ext l2 l3)
noncomputable def hv : Program := view pr [0, 2, 3, 4, 6, 7, 8, 9, 10, 11, 12, 13, 14, 15, 16, 17, 18, 19, 21, 22, 23, 24, 25, 26, 27, 28, 29, 30, 31]
theorem opn : opening pr = plainProg pr.main.scope.names := by kernel_rfl
theorem fen (s : Shared) : fenceModules? pr s = some s := by kernel_rfl
theorem siz (w : World) : ((boot_heap w.params).isNs mainGlobals && (Array.mk [] : Array GenState).size == 0, (boot_heap w.params).objs.size, (boot_heap w.params).nsMap mainGlobals "__annotations__") = (true, 11, some (.ref 6)) := by
  kernel_rfl
theorem said1 : PySem.Challenge.rw_og0257_01.wellSaid = true := by
  rw [PySem.W.Fast.te9446332074065402090]
  kernel_rfl
theorem looks0 (w : World) : (fun os => (runG (stepOk 11 (some (.ref 6))) (stepT (denote treeTable) pr w) 5056 (start0 w os) (topStub pr)).map fun S =>
      (staticsOk (importedModules pr.main.body) (boot_heap w.params) S.abs.heap && namesBound pr S.abs.heap && gensDone S.abs && laidKept (boot_heap w.params) S.abs.heap, openSeen hv [Str.ofString "PLAIN"] (importedModules pr.main.body) (fun s => xlAt hv [(Str.ofString "PLAIN", WData.tuple [WData.int 0, WData.int (-1), WData.int (-1), WData.int (-1), WData.int 0])] s && recOk (RowW.records (PySem.Challenge.rw_og0257_01.row.toRowW)) s) true S.abs)) =
        fun _ => some (true, openGood hv [Str.ofString "PLAIN"]) := by
  rw [PySem.W.Fast.te6613529449190102663, PySem.W.Fast.te10156331382660048174, PySem.W.Fast.te11892475500146522536, PySem.W.Fast.te14364793385576792824, PySem.W.Fast.te4187177175401517315, PySem.W.Fast.te5923862056798008813]
  kernel_rfl
end
section
set_option hygiene false in
local macro_rules | `(tactic| o_law) => `(tactic| refine holds_law said1 fun said => ?_)
set_option hygiene false in
local macro_rules | `(tactic| o_head $H) => `(tactic| (
  refine holds_open (r := PySem.Challenge.rw_og0257_01.row) (q := hv) (loose := [Str.ofString "PLAIN"]) (Xt := fun s => xlAt hv [(Str.ofString "PLAIN", WData.tuple [WData.int 0, WData.int (-1), WData.int (-1), WData.int (-1), WData.int 0])] s && recOk (RowW.records (PySem.Challenge.rw_og0257_01.row.toRowW)) s)
    (XP := XL hv [(Str.ofString "PLAIN", WData.tuple [WData.int 0, WData.int (-1), WData.int (-1), WData.int (-1), WData.int 0])]) (Yf := Hook.obs $H) (Ya := Hook.val $H) (YP := Hook.says $H) (N := 5056) ?hl (Hook.of $H) (Hook.keeps $H) (fun s e => xl_of s (Bool.and_eq_true_iff.mp e).1) XL.keeps (by rfl) (by rfl) (by rfl) (fun s e => recFacts_of (Bool.and_eq_true_iff.mp e).2) (by rfl) said (by decide +kernel) ⟨rfl, rfl, rfl, rfl, rfl, by decide +kernel⟩ ?hw ?hc;
  (case hl =>
    (refine left_of (p := pr) opn rfl fen siz ?_ looks0);
    intro w;
    rw [PySem.W.Fast.te6613529449190102663, PySem.W.Fast.te10156331382660048174, PySem.W.Fast.te11892475500146522536, PySem.W.Fast.te14364793385576792824];
    kernel_rfl)))
set_option maxRecDepth 100000 in
set_option maxHeartbeats 8000000 in
open_top hd for PySem.Challenge.rw_og0257_01
end
open PySem.Calls PySem.Spec
section
abbrev Led := List (Addr × Obj)
def Own (g h : Heap) (l : Led) : Prop := ∀ p ∈ l, h.get? p.1 = some p.2 ∧ g.get? p.1 = none
abbrev ar (dp un : Nat) (gd : Option (List Code)) (fs : List Env) : Around := { handled := none, depth := dp, frames := some fs, guards := gd, units := un }
def SpecEnd (g : Heap) (s : Shared) (Post : Value → Led → Prop) (v : Value) (s' : Shared) : Prop :=
  ∃ need' h' tk', s' = { s with heap := h', toks := tk' } ∧ g.StaysIn h' ∧ Own g h' need' ∧ Post v need'
def Spec (prog : Program) (w : World) (K : Frag) (k : Nat) (f : Addr) (args : List Value) (need : Led) (Post : Value → Led → Prop) : Prop :=
  ∀ (p : Program) (loose : List Str) (mean : ExcName → Option Value) (mg mb : Str → Option Value) (dp un : Nat) (gd : Option (List Code)) (outer : List Env) (A₀ : Around) (base g : Heap) (s : Shared),
    Below A₀ base outer g → K.In g → Top p loose mean mg mb g → g.StaysIn s.heap → g.objs.size ≤ s.heap.objs.size → Own g s.heap need →
    dp + k < recursionLimit → un + 8 * k < cLine →
    codeAny (model prog w) (ar dp un gd outer) (.call (.ref f) ⟨args, []⟩) (fun r s' => ∃ v, r = .ok (.ret v) ∧ SpecEnd g s Post v s') s
theorem SpecEnd.intro {g : Heap} {s : Shared} {Post : Value → Led → Prop} {v : Value} {L : Addr} {m : Str → Option Value} {h' : Heap} {tk' : Nat} {led : Led} (need' : Led)
    (F : Fr g L h' m) (N : News g L h' led) (hs : ∀ p ∈ need', p ∈ led) (hp : Post v need') : SpecEnd g s Post v { s with heap := h', toks := tk' } :=
  ⟨need', h', tk', rfl, F.keep, fun p q => ⟨(N p (hs p q)).1, (N p (hs p q)).2.2⟩, hp⟩
theorem spec_code {prog : Program} {w : World} {K : Frag} {k : Nat} {f : Addr} {args : List Value} {need : Led} {Post : Value → Led → Prop}
    {p : Program} {loose : List Str} {mean : ExcName → Option Value} {mg mb : Str → Option Value} {A A₀ : Around} {env : Env} {outer : List Env} {base h₀ : Heap} {L : Addr} {m : Str → Option Value} {s : Shared} {led : Led} {R : Result → Shared → Prop}
    (S : Spec prog w K k f args need Post) (B : Below A₀ base outer h₀) (F : Fr h₀ L s.heap m) (X : K.In h₀) (T : Top p loose mean mg mb h₀) (N : News h₀ L s.heap led)
    (hA : A.frames = some (env :: outer)) (hh : A.handled = none) (hf : env.frame = some L) (hke : env.scope.kind = .function)
    (keep : Led) (hsub : ∀ p ∈ need, p ∈ led) (hkeep : ∀ p ∈ keep, p ∈ led) (hoff : ∀ p ∈ keep, ∀ q ∈ need, p.1 ≠ q.1)
    (hd : A.depth + k < recursionLimit) (hu : A.units + 8 * k < cLine)
    (ret : ∀ v need' h' tk', Post v need' → (∀ p ∈ need', ∀ q ∈ keep, p.1 ≠ q.1) → Fr h₀ L h' m → News h₀ L h' (need' ++ keep) → R (.ok (.ret v)) { s with heap := h', toks := tk' }) :
    codeAny (model prog w) A (.call (.ref f) ⟨args, []⟩) R s := by
  have N0 : News h₀ L s.heap need := fun p hp => N p (hsub p hp)
  obtain ⟨FG, BG, st, lv⟩ := groundX (R := fun _ _ => True) B F N0 hA hf hke
  have hAe : A = ar A.depth A.units A.guards (env :: outer) := by
    obtain ⟨a1, a2, a3, a4, a5⟩ := A
    cases hA; cases hh; rfl
  refine codeAny_mono ?_ (R := fun r s' => ∃ v, r = .ok (.ret v) ∧ SpecEnd (hideAll s.heap (need.map (·.1))) s Post v s') ?_
  · rw [hAe]
    refine S p loose mean mg mb _ _ _ _ _ _ _ s BG (X.keeps st) (T.keeps st) (fun b o e => of_hideAll _ e) (Nat.le_of_eq (hideAll_size _ _)) (fun p hp => ⟨(N0 p hp).1, hideAll_none _ (List.mem_map_of_mem hp)⟩) hd hu
  · rintro r s' ⟨v, rfl, need', h', tk', rfl, hk, ho, hp⟩
    obtain ⟨oL, es, ep, hL, hLd, hLk, hLf⟩ := FG.ns
    refine ret v need' h' tk' hp (fun p1 hp1 q1 hq1 e1 => ?_) ⟨⟨oL, es, ep, hk _ _ hL, hLd, hLk, hLf⟩, fun b o e => hk b o (st b o e), F.above⟩ ?_
    · have h1 := (ho p1 hp1).2
      have h2 := hideAll_get (need.map (·.1)) (N q1 (hkeep q1 hq1)).1 fun z => by
        obtain ⟨y, hy, e⟩ := List.mem_map.mp z
        exact hoff q1 hq1 y hy e.symm
      rw [e1, h2] at h1; cases h1
    intro q hq
    rcases List.mem_append.mp hq with hq | hq
    · refine ⟨(ho q hq).1, fun e => ?_, ?_⟩
      · have := (ho q hq).2; rw [e, hL] at this; cases this
      · cases z : h₀.get? q.1 with
        | none => rfl
        | some o => have := (ho q hq).2; rw [st _ _ z] at this; cases this
    · have Nq := N q (hkeep q hq)
      refine ⟨hk _ _ (hideAll_get _ Nq.1 fun z => ?_), Nq.2⟩
      obtain ⟨y, hy, e⟩ := List.mem_map.mp z
      exact hoff q hq y hy e.symm
theorem spec_use {prog : Program} {w : World} {K : Frag} {k : Nat} {f : Addr} {args : List Value} {need : Led} {Post : Value → Led → Prop}
    {p : Program} {loose : List Str} {mean : ExcName → Option Value} {mg mb : Str → Option Value} {A A₀ : Around} {env : Env} {outer : List Env} {base h₀ : Heap} {L : Addr} {m : Str → Option Value} {s : Shared} {led : Led} {Q E : Value → Shared → Prop}
    (S : Spec prog w K k f args need Post) (B : Below A₀ base outer h₀) (F : Fr h₀ L s.heap m) (X : K.In h₀) (T : Top p loose mean mg mb h₀) (N : News h₀ L s.heap led)
    (hA : A.frames = some (env :: outer)) (hh : A.handled = none) (hf : env.frame = some L) (hke : env.scope.kind = .function)
    (keep : Led) (hsub : ∀ p ∈ need, p ∈ led) (hkeep : ∀ p ∈ keep, p ∈ led) (hoff : ∀ p ∈ keep, ∀ q ∈ need, p.1 ≠ q.1)
    (hd : A.depth + k < recursionLimit) (hu : A.units + 8 * k < cLine)
    (ret : ∀ v need' h' tk', Post v need' → (∀ p ∈ need', ∀ q ∈ keep, p.1 ≠ q.1) → Fr h₀ L h' m → News h₀ L h' (need' ++ keep) → Q v { s with heap := h', toks := tk' }) :
    wpAny (model prog w) A (call (.ref f) args) Q E s :=
  wpAny_call (spec_code S B F X T N hA hh hf hke keep hsub hkeep hoff hd hu ret)
theorem spec_enter {prog : Program} {w : World} {K : Frag} {k : Nat} {f : Addr} {args : List Value} {need : Led} {Post : Value → Led → Prop}
    {name qual : Str} {params : Arguments} {body : List Stmt} {scope : Scope} {dV kV doc pm cdv ct oc : Value} {an od : Option Addr} {osl : Array (Option Value)} {binds : List (Str × Value)}
    (ho : K.lookup f = some ⟨oc, od, .func (fnOf name qual params body scope dV kV doc pm an cdv ct), osl⟩) (hcd : codeIn K cdv qual = true)
    (hbind : ∀ s : Shared, K.In s.heap → BindsTo s (fnOf name qual params body scope dV kV doc pm an cdv ct) ⟨args, []⟩ binds) (hloc : ∀ y ∈ binds, scope.names.lookup y.1 = some .local)
    (hk1 : 0 < k)
    (h : ∀ (p : Program) (loose : List Str) (mean : ExcName → Option Value) (mg mb : Str → Option Value) (dp un : Nat) (gd : Option (List Code)) (outer : List Env) (A₀ : Around) (base g : Heap) (s : Shared) (L' : Addr) (h₁ : Heap),
      dp + k < recursionLimit → un + 8 * k < cLine → Below A₀ base outer g → Fr g L' h₁ (fun y => binds.reverse.lookup y) → News g L' h₁ need → K.In g → Top p loose mean mg mb g →
      wpAny (model prog w) ((ar dp un gd outer).deeper (envOf qual scope L' f cdv)) (execs body (envOf qual scope L' f cdv))
        (fun fl s' => SpecEnd g s Post (match fl with | .ret v => v | _ => .none) s') (fun _ _ => False) { s with heap := h₁, toks := s.toks + binds.length })
    (hcell : ∀ x ∈ scope.names, x.2 ≠ .cell) (hco : scope.isCoroutine = false := by rfl) (hgen : scope.isGenerator = false := by rfl) (hk : scope.kind = .function := by rfl) :
    Spec prog w K k f args need Post := by
  intro p loose mean mg mb dp un gd outer A₀ base g s B X T hst hsz O hd hu
  refine codeAny_call_def (fd := fnOf name qual params body scope dV kV doc pm an cdv ct) (body := body) (binds := binds) (by show dp < recursionLimit; omega) (hst _ _ (X _ _ ho)) rfl (T.nolimit.keeps hst) (codeRec_of (X.keeps hst) hcd) rfl (hbind s (X.keeps hst)) hcell hloc (fun h₁ hns hk₁ => ?_) hco hgen hk
  have w := h p loose mean mg mb dp un gd outer A₀ base g s s.heap.objs.size h₁ hd hu B ⟨hns, fun b o e => hk₁ b o (hst b o e), hsz⟩ (fun q hq => ⟨hk₁ _ _ (O q hq).1, Nat.ne_of_lt (Heap.lt_size (O q hq).1), (O q hq).2⟩) X T
  exact wpAny_mono w (fun fl s' hl => ⟨_, rfl, hl⟩) fun _ _ z => z.elim
theorem sub_nil {led : Led} : ∀ p ∈ ([] : Led), p ∈ led := fun _ h => nomatch h
theorem sub_cons {q : Addr × Obj} {l led : Led} (h : q ∈ led) (r : ∀ p ∈ l, p ∈ led) : ∀ p ∈ q :: l, p ∈ led := fun p hp => by
  rcases List.mem_cons.mp hp with rfl | hp
  · exact h
  · exact r p hp
theorem off_nil {l : Led} : ∀ p ∈ ([] : Led), ∀ q ∈ l, p.1 ≠ q.1 := fun _ h => nomatch h
theorem off1_nil {a : Addr} : ∀ q ∈ ([] : Led), a ≠ q.1 := fun _ h => nomatch h
theorem off1_cons {a : Addr} {q : Addr × Obj} {l : Led} (h : a ≠ q.1) (r : ∀ q ∈ l, a ≠ q.1) : ∀ p ∈ q :: l, a ≠ p.1 := fun p hp => by
  rcases List.mem_cons.mp hp with rfl | hp
  · exact h
  · exact r p hp
theorem off_cons {q : Addr × Obj} {l led : Led} (h : ∀ x ∈ led, q.1 ≠ x.1) (r : ∀ p ∈ l, ∀ q ∈ led, p.1 ≠ q.1) : ∀ p ∈ q :: l, ∀ x ∈ led, p.1 ≠ x.1 := fun p hp => by
  rcases List.mem_cons.mp hp with rfl | hp
  · exact h
  · exact r p hp
def NotIn (a : Addr) : List Addr → Prop
  | [] => True
  | b :: r => a ≠ b ∧ NotIn a r
theorem NotIn.ne {a : Addr} : ∀ {l : List Addr}, NotIn a l → ∀ b ∈ l, a ≠ b
  | [], _, _, h => nomatch h
  | _ :: _, x, b, h => by
    rcases List.mem_cons.mp h with rfl | h
    · exact x.1
    · exact NotIn.ne x.2 b h
inductive Rest (as : List Addr) : Led → Led → Prop
  | nil : Rest as [] []
  | drop {a : Addr} {o : Obj} {l r : Led} : a ∈ as → Rest as l r → Rest as ((a, o) :: l) r
  | keep {a : Addr} {o : Obj} {l r : Led} : NotIn a as → Rest as l r → Rest as ((a, o) :: l) ((a, o) :: r)
theorem Rest.sub {as : List Addr} {l r : Led} (h : Rest as l r) : ∀ p ∈ r, p ∈ l := by
  induction h with
  | nil => exact fun _ h => h
  | drop _ _ ih => exact fun p hp => .tail _ (ih p hp)
  | keep _ _ ih =>
      intro p hp
      rcases List.mem_cons.mp hp with rfl | hp
      · exact .head _
      · exact .tail _ (ih p hp)
theorem Rest.off {as : List Addr} {l r : Led} (h : Rest as l r) : ∀ p ∈ r, ∀ b ∈ as, p.1 ≠ b := by
  induction h with
  | nil => exact fun _ h => nomatch h
  | drop _ _ ih => exact ih
  | keep q _ ih =>
      intro p hp b hb
      rcases List.mem_cons.mp hp with rfl | hp
      · exact q.ne b hb
      · exact ih p hp b hb
def OffL (as : List Addr) : Led → Prop
  | [] => True
  | p :: r => NotIn p.1 as ∧ OffL as r
theorem notIn_of {a : Addr} : ∀ {l : Led}, (∀ q ∈ l, a ≠ q.1) → NotIn a (l.map (·.1))
  | [], _ => True.intro
  | _ :: _, h => ⟨h _ (.head _), notIn_of fun q hq => h q (.tail _ hq)⟩
def Dist : List Addr → Prop
  | [] => True
  | a :: r => NotIn a r ∧ Dist r
theorem spec_call {prog : Program} {w : World} {K : Frag} {k : Nat} {f : Addr} {args : List Value} {need : Led} {Post : Value → Led → Prop}
    {p : Program} {loose : List Str} {mean : ExcName → Option Value} {mg mb : Str → Option Value} {A A₀ : Around} {env : Env} {outer : List Env} {base h₀ : Heap} {L : Addr} {m : Str → Option Value} {s : Shared} {led keep : Led} {as : List Addr} {Q E : Value → Shared → Prop}
    (S : Spec prog w K k f args need Post) (B : Below A₀ base outer h₀) (F : Fr h₀ L s.heap m) (X : K.In h₀) (T : Top p loose mean mg mb h₀) (N : News h₀ L s.heap led)
    (hA : A.frames = some (env :: outer)) (hh : A.handled = none) (hf : env.frame = some L) (hke : env.scope.kind = .function)
    (hsub : ∀ p ∈ need, p ∈ led) (has : need.map (·.1) = as) (hrest : Rest as led keep)
    (hd : A.depth + k < recursionLimit) (hu : A.units + 8 * k < cLine)
    (ret : ∀ v need' h' tk', Post v need' → (∀ p ∈ need', NotIn p.1 (keep.map (·.1))) → Fr h₀ L h' m → News h₀ L h' (need' ++ keep) → Q v { s with heap := h', toks := tk' }) :
    wpAny (model prog w) A (call (.ref f) args) Q E s :=
  spec_use S B F X T N hA hh hf hke keep hsub hrest.sub (fun p hp q hq => hrest.off p hp q.1 (by subst has; exact List.mem_map_of_mem hq)) hd hu
    fun v need' h' tk' hp ho F' N' => ret v need' h' tk' hp (fun p hp => notIn_of (ho p hp)) F' N'
theorem int_eq {x y : Int} {t : Tok} (h : x = y) : ∃ t', Value.int x t = Value.int y t' := ⟨t, h ▸ rfl⟩
def Hold (P : Prop) : Prop := P
theorem Hold.out {P : Prop} (h : Hold P) : P := h
section
variable {prog : Program} {w : World} {A : Around} {E : Value → Shared → Prop} {s : Shared} {env : Env} {h₀ : Heap} {x : Str} {body : List Stmt} {Q : Flow → Shared → Prop}
def TurnEnd (h₀ : Heap) (L : Addr) (s₁ : Shared) (I : Addr) (it : Obj) (J : (Str → Option Value) → Led → Prop) (Q : Flow → Shared → Prop) (f : Flow) (s₂ : Shared) : Prop :=
  match f with
  | .ret v => Q (.ret v) s₂
  | .brk => Q .next s₂
  | _ => ∃ h' tk m' news', s₂ = { s₁ with heap := h', toks := tk } ∧ Fr h₀ L h' m' ∧ News h₀ L h' ((I, it) :: news') ∧ NotIn I (news'.map (·.1)) ∧ J m' news'
theorem TurnEnd.intro {h₀ : Heap} {L : Addr} {s₁ : Shared} {I : Addr} {it : Obj} {J : (Str → Option Value) → Led → Prop} {Q : Flow → Shared → Prop} {h' : Heap} {tk : Nat} {m' : Str → Option Value} {all : Led} (news' : Led)
    (F : Fr h₀ L h' m') (N : News h₀ L h' all) (hi : (I, it) ∈ all) (hs : ∀ p ∈ news', p ∈ all) (hn : NotIn I (news'.map (·.1))) (hj : J m' news') : TurnEnd h₀ L s₁ I it J Q .next { s₁ with heap := h', toks := tk } :=
  ⟨h', tk, m', news', rfl, F, fun p hp => by
    rcases List.mem_cons.mp hp with rfl | hp
    · exact N _ hi
    · exact N _ (hs p hp), hn, hj⟩
theorem notIn_ne {a : Addr} {l : Led} (h : NotIn a (l.map (·.1))) (p : Addr × Obj) (hp : p ∈ l) : p.1 ≠ a :=
  Ne.symm (NotIn.ne h _ (List.mem_map_of_mem hp))
theorem range_loop {r : Addr} {a₀ b₀ : Int} {t₀ u₀ v₀ : Tok} {n : Nat} {m₀ : Str → Option Value} {news : Led} (J : Nat → (Str → Option Value) → Led → Prop)
    (hh : A.handled = none) (hr : IsRange s.heap r a₀ b₀ 1 t₀ u₀ v₀) (hsmall : Builtin.Range.small a₀ b₀ 1 = true) (hn : Builtin.Range.rangeSize a₀ b₀ 1 = (n : Int)) (F : Fr h₀ env.locals s.heap m₀) (N : News h₀ env.locals s.heap news) (hJ : J 0 m₀ news)
    (turn : ∀ i m news t h tk I it, i < n → J i m news → NotIn I (news.map (·.1)) → Fr h₀ env.locals h (fun y => if y = x then some (.int (a₀ + (i : Int)) t) else m y) → News h₀ env.locals h ((I, it) :: news) →
      wpAny (model prog w) A (execs body env) (TurnEnd h₀ env.locals { s with heap := h, toks := tk } I it (J (i + 1)) Q) E { s with heap := h, toks := tk })
    (done : ∀ m news h tk, J n m news → Fr h₀ env.locals h m → News h₀ env.locals h news → Q .next { s with heap := h, toks := tk }) :
    wpAny (model prog w) A (pyIter (.ref r)) (fun it s₂ => LoopAtV prog w A h₀ env x body Q E it s₂) E s := by
  refine iter_rangeUnr (n := n) hh hr hsmall hn F N fun I hI => ?_
  have all : ∀ k i m news, i + k = n → J i m news → NotIn I (news.map (·.1)) → RangeRest prog w A E h₀ env x body Q s I a₀ n k i m news := by
    intro k
    induction k with
    | zero =>
      intro i m nx hi hj _
      obtain rfl : i = n := by omega
      exact RangeRest.zero fun h tk F' N' => done m nx h tk hj F' N'
    | succ k ih =>
      intro i m nx hi hj hI'
      refine RangeRest.succ fun t h tk F' N' => wpAny_mono (turn i m nx t h tk I _ (by omega) hj hI' F' N') (fun f s₂ q => ?_) fun _ _ e => e
      cases f with
      | ret v => exact q
      | brk => exact q
      | next => obtain ⟨h', tk', m', news', e, F₂, N₂, hn', hj'⟩ := q; exact ⟨h', tk', m', news', e, F₂, N₂, notIn_ne hn', ih (i + 1) m' news' (by omega) hj' hn'⟩
      | cont => obtain ⟨h', tk', m', news', e, F₂, N₂, hn', hj'⟩ := q; exact ⟨h', tk', m', news', e, F₂, N₂, notIn_ne hn', ih (i + 1) m' news' (by omega) hj' hn'⟩
  exact all n 0 m₀ news (by omega) hJ (notIn_of fun q hq => Ne.symm (Nat.ne_of_lt (hI q hq)))
end
theorem bind_skip (m : Str → Option Value) (a b : Str) (v : Option Value) : (fun z => if z = a then v else m z) = (fun z => if z = a then v else if z = b then m b else m z) := by
  funext z
  by_cases h : z = a
  · simp [h]
  · by_cases h' : z = b
    · simp [h']
    · simp [h, h']
theorem bind_again (m : Str → Option Value) (a b : Str) (v w v' w' : Option Value) : (fun z => if z = a then v else if z = b then w else if z = a then v' else if z = b then w' else m z) = (fun z => if z = a then v else if z = b then w else m z) := by
  funext z
  by_cases h : z = a
  · simp [h]
  · by_cases h' : z = b
    · simp [h']
    · simp [h, h']
theorem spec_enterC {prog : Program} {w : World} {K : Frag} {k : Nat} {f : Addr} {args : List Value} {need : Led} {Post : Value → Led → Prop}
    {name qual : Str} {params : Arguments} {body : List Stmt} {scope : Scope} {dV kV doc pm cdv ct oc : Value} {an od : Option Addr} {osl : Array (Option Value)} {binds : List (Str × Value)}
    (ho : K.lookup f = some ⟨oc, od, .func (fnOf name qual params body scope dV kV doc pm an cdv ct), osl⟩) (hcd : codeIn K cdv qual = true)
    (hbind : ∀ s : Shared, K.In s.heap → BindsTo s (fnOf name qual params body scope dV kV doc pm an cdv ct) ⟨args, []⟩ binds)
    (hkind : (binds.all fun y => scope.names.lookup y.1 == some .local || scope.names.lookup y.1 == some .cell) = true)
    (hnd : ((cellsFrom 0 scope.names []).map (·.1)).Nodup)
    (hk1 : 0 < k)
    (h : ∀ (p : Program) (loose : List Str) (mean : ExcName → Option Value) (mg mb : Str → Option Value) (dp un : Nat) (gd : Option (List Code)) (outer : List Env) (A₀ : Around) (base g : Heap) (s : Shared) (L' : Addr) (h₁ : Heap) (tk : Nat) (cells : Led),
      dp + k < recursionLimit → un + 8 * k < cLine → Below A₀ base outer g → Fr g L' h₁ (bindL (envOfC qual scope L' f cdv).kindOf binds fun _ => none) → News g L' h₁ (cells ++ need) →
      CellsAre (bindC (envOfC qual scope L' f cdv).kindOf binds fun _ => none) (cellsFrom (L' + 1) scope.names []) cells → (∀ p ∈ need, p.1 < L') → K.In g → Top p loose mean mg mb g →
      wpAny (model prog w) ((ar dp un gd outer).deeper (envOfC qual scope L' f cdv)) (execs body (envOfC qual scope L' f cdv))
        (fun fl s' => SpecEnd g s Post (match fl with | .ret v => v | _ => .none) s') (fun _ _ => False) { s with heap := h₁, toks := tk })
    (hco : scope.isCoroutine = false) (hgen : scope.isGenerator = false) (hk : scope.kind = .function) :
    Spec prog w K k f args need Post := by
  intro p loose mean mg mb dp un gd outer A₀ base g s B X T hst hsz O hd hu
  refine codeAny_call_function (by show dp < recursionLimit; omega) (hst _ _ (X _ _ ho)) rfl hco hgen rfl (codeRec_of (X.keeps hst) hcd) (hbind s (X.keeps hst) _ _ _ _ ?_)
  refine wpAny_newFunctionEnv_cells hk (kindsX hkind _) fun env' he s' x => ?_
  subst he
  refine ⟨(T.nolimit.keeps hst).keeps x.toInCall.keep, codeAny_func ?_⟩
  obtain ⟨h₁, tk, rfl, _⟩ := x.done
  have hk₁ := x.toInCall.keep
  obtain ⟨cells, NC, Y⟩ := Cl.news (h₀ := s.heap) (Nat.le_refl _) fun n c hm => ⟨x.cell n c (lookup_of_mem_nodup (cellsFrom_names scope.names 0 (s.heap.objs.size + 1) [] [] rfl ▸ hnd) hm), x.above n c hm⟩
  have w := h p loose mean mg mb dp un gd outer A₀ base g s s.heap.objs.size h₁ tk cells hd hu B ⟨x.toInCall.ns, fun b o e => hk₁ b o (hst b o e), hsz⟩ (fun q hq => ?_) Y (fun q hq => Heap.lt_size (O q hq).1) X T
  · exact wpAny_mono w (fun fl s' hl => ⟨_, rfl, hl⟩) fun _ _ z => z.elim
  · rcases List.mem_append.mp hq with hq | hq
    · refine ⟨(NC q hq).1, (NC q hq).2.1, ?_⟩
      cases z : g.get? q.1 with
      | none => rfl
      | some o => have := (NC q hq).2.2; rw [hst _ _ z] at this; cases this
    · exact ⟨hk₁ _ _ (O q hq).1, Nat.ne_of_lt (Heap.lt_size (O q hq).1), (O q hq).2⟩
section
variable {prog : Program} {w : World} {A : Around} {E : Value → Shared → Prop} {s : Shared} {env : Env} {h₀ : Heap} {x : Str} {body : List Stmt} {Q : Flow → Shared → Prop}
theorem list_loop {ax : Addr} {lo : Obj} {vs : List Value} {ks : List Int} {n : Nat} {m₀ : Str → Option Value} {news : Led} (J : List Int → (Str → Option Value) → Led → Prop)
    (hh : A.handled = none) (F : Fr h₀ env.locals s.heap m₀) (N : News h₀ env.locals s.heap news) (hm : (ax, lo) ∈ news) (hc : lo.cls = .type "list") (hd : lo.data = .seq vs.toArray n) (hi : IntsAre vs ks) (hJ : J [] m₀ news)
    (hmem : ∀ pre m news, J pre m news → (ax, lo) ∈ news)
    (turn : ∀ pre k rest m news t h tk I it, ks = pre ++ k :: rest → J pre m news → NotIn I (news.map (·.1)) → Fr h₀ env.locals h (fun y => if y = x then some (.int k t) else m y) → News h₀ env.locals h ((I, it) :: news) →
      wpAny (model prog w) A (execs body env) (TurnEnd h₀ env.locals { s with heap := h, toks := tk } I it (J (pre ++ [k])) Q) E { s with heap := h, toks := tk })
    (done : ∀ m news h tk, J ks m news → Fr h₀ env.locals h m → News h₀ env.locals h news → Q .next { s with heap := h, toks := tk }) :
    wpAny (model prog w) A (pyIter (.ref ax)) (fun it s₂ => LoopAtV prog w A h₀ env x body Q E it s₂) E s := by
  refine iter_listUnr hh F N hm hc hd fun I hI => ?_
  have all : ∀ {vs' : List Value} {rest : List Int}, IntsAre vs' rest → ∀ pre m news, ks = pre ++ rest → J pre m news → NotIn I (news.map (·.1)) → ListRest prog w A E h₀ env x body Q s I (ax, lo) vs' m news := by
    intro vs' rest hr
    induction hr with
    | nil =>
      intro pre m nx e hj _
      rw [List.append_nil] at e
      subst e
      exact ListRest.zero fun h tk F' N' => done m nx h tk hj F' N'
    | cons k t hr ih =>
      intro pre m nx e hj hI'
      refine ListRest.succ fun it h tk _ F' N' => wpAny_mono (turn pre k _ m nx t h tk I it e hj hI' F' N') (fun f s₂ q => ?_) fun _ _ e => e
      cases f with
      | ret v => exact q
      | brk => exact q
      | next => obtain ⟨h', tk', m', news', e', F₂, N₂, hn', hj'⟩ := q; exact ⟨h', tk', m', news', e', F₂, N₂, notIn_ne hn', hmem _ _ _ hj', ih (pre ++ [k]) m' news' (by rw [e]; simp) hj' hn'⟩
      | cont => obtain ⟨h', tk', m', news', e', F₂, N₂, hn', hj'⟩ := q; exact ⟨h', tk', m', news', e', F₂, N₂, notIn_ne hn', hmem _ _ _ hj', ih (pre ++ [k]) m' news' (by rw [e]; simp) hj' hn'⟩
  exact all hi [] m₀ news rfl hJ (notIn_of fun q hq => Ne.symm (Nat.ne_of_lt (hI q hq)))
end
def Cps (H : (Value → Led → Prop) → Prop) : Value → Led → Prop := fun v led => ∀ G : Value → Led → Prop, H G → G v led
theorem SpecEnd.introC {g : Heap} {s : Shared} {H : (Value → Led → Prop) → Prop} {v v' : Value} {L : Addr} {m : Str → Option Value} {h' : Heap} {tk' : Nat} {led led' : Led} (need' : Led)
    (F : Fr g L h' m) (N : News g L h' led) (hs : ∀ p ∈ need', p ∈ led) (hv : v = v') (hl : need' = led') (hp : ∀ G : Value → Led → Prop, H G → G v' led') : SpecEnd g s (Cps H) v { s with heap := h', toks := tk' } :=
  SpecEnd.intro need' F N hs (by subst hv; subst hl; exact hp)
theorem spec_callC {prog : Program} {w : World} {K : Frag} {k : Nat} {f : Addr} {args : List Value} {need : Led} {H : (Value → Led → Prop) → Prop}
    {p : Program} {loose : List Str} {mean : ExcName → Option Value} {mg mb : Str → Option Value} {A A₀ : Around} {env : Env} {outer : List Env} {base h₀ : Heap} {L : Addr} {m : Str → Option Value} {s : Shared} {led keep : Led} {as : List Addr} {Q E : Value → Shared → Prop}
    (S : Spec prog w K k f args need (Cps H)) (B : Below A₀ base outer h₀) (F : Fr h₀ L s.heap m) (X : K.In h₀) (T : Top p loose mean mg mb h₀) (N : News h₀ L s.heap led)
    (hA : A.frames = some (env :: outer)) (hh : A.handled = none) (hf : env.frame = some L) (hke : env.scope.kind = .function)
    (hsub : ∀ p ∈ need, p ∈ led) (has : need.map (·.1) = as) (hrest : Rest as led keep)
    (hd : A.depth + k < recursionLimit) (hu : A.units + 8 * k < cLine)
    (ret : H fun v need' => ∀ h' tk', (∀ p ∈ need', NotIn p.1 (keep.map (·.1))) → Fr h₀ L h' m → News h₀ L h' (need' ++ keep) → Q v { s with heap := h', toks := tk' }) :
    wpAny (model prog w) A (call (.ref f) args) Q E s :=
  spec_call S B F X T N hA hh hf hke hsub has hrest hd hu fun _ _ h' tk' hp => hp _ ret h' tk'
theorem int_eqc {x y : Int} {t : Tok} (h : x = y) : Value.int x t = Value.int y t := h ▸ rfl
theorem mem1 {α : Type} {a b : α} {l : List α} : b ∈ a :: b :: l := .tail _ (.head _)
abbrev MLed := (Str → Option Value) → Led → Prop
section
variable {prog : Program} {w : World} {A : Around} {E : Value → Shared → Prop} {s : Shared} {env : Env} {h₀ : Heap} {x : Str} {body : List Stmt} {Q : Flow → Shared → Prop}
theorem range_loopC {r : Addr} {a₀ b₀ : Int} {t₀ u₀ v₀ : Tok} {n : Nat} {m₀ : Str → Option Value} {news : Led} (J : Nat → MLed → Prop)
    (hh : A.handled = none) (hr : IsRange s.heap r a₀ b₀ 1 t₀ u₀ v₀) (hsmall : Builtin.Range.small a₀ b₀ 1 = true) (hn : Builtin.Range.rangeSize a₀ b₀ 1 = (n : Int)) (F : Fr h₀ env.locals s.heap m₀) (N : News h₀ env.locals s.heap news) (hJ : ∀ G : MLed, J 0 G → G m₀ news)
    (turn : ∀ i t h tk I it, i < n → J i fun m news => NotIn I (news.map (·.1)) → Fr h₀ env.locals h (fun y => if y = x then some (.int (a₀ + (i : Int)) t) else m y) → News h₀ env.locals h ((I, it) :: news) →
      wpAny (model prog w) A (execs body env) (TurnEnd h₀ env.locals { s with heap := h, toks := tk } I it (fun m' news' => ∀ G : MLed, J (i + 1) G → G m' news') Q) E { s with heap := h, toks := tk })
    (done : ∀ h tk, J n fun m news => Fr h₀ env.locals h m → News h₀ env.locals h news → Q .next { s with heap := h, toks := tk }) :
    wpAny (model prog w) A (pyIter (.ref r)) (fun it s₂ => LoopAtV prog w A h₀ env x body Q E it s₂) E s :=
  range_loop (fun i m news => ∀ G : MLed, J i G → G m news) hh hr hsmall hn F N hJ (fun i _ _ t h tk I it hi hj hI F N => hj _ (turn i t h tk I it hi) hI F N) (fun _ _ h tk hj F N => hj _ (done h tk) F N)
theorem list_loopC {ax : Addr} {lo : Obj} {vs : List Value} {ks : List Int} {n : Nat} {m₀ : Str → Option Value} {news : Led} (J : List Int → MLed → Prop)
    (hh : A.handled = none) (F : Fr h₀ env.locals s.heap m₀) (N : News h₀ env.locals s.heap news) (hm : (ax, lo) ∈ news) (hc : lo.cls = .type "list") (hd : lo.data = .seq vs.toArray n) (hi : IntsAre vs ks) (hJ : ∀ G : MLed, J [] G → G m₀ news)
    (hmem : ∀ pre, J pre fun _ news => (ax, lo) ∈ news)
    (turn : ∀ pre k rest t h tk I it, ks = pre ++ k :: rest → J pre fun m news => NotIn I (news.map (·.1)) → Fr h₀ env.locals h (fun y => if y = x then some (.int k t) else m y) → News h₀ env.locals h ((I, it) :: news) →
      wpAny (model prog w) A (execs body env) (TurnEnd h₀ env.locals { s with heap := h, toks := tk } I it (fun m' news' => ∀ G : MLed, J (pre ++ [k]) G → G m' news') Q) E { s with heap := h, toks := tk })
    (done : ∀ h tk, J ks fun m news => Fr h₀ env.locals h m → News h₀ env.locals h news → Q .next { s with heap := h, toks := tk }) :
    wpAny (model prog w) A (pyIter (.ref ax)) (fun it s₂ => LoopAtV prog w A h₀ env x body Q E it s₂) E s :=
  list_loop (fun pre m news => ∀ G : MLed, J pre G → G m news) hh F N hm hc hd hi hJ (fun pre _ _ hj => hj _ (hmem pre)) (fun pre k rest _ _ t h tk I it e hj hI F N => hj _ (turn pre k rest t h tk I it e) hI F N) (fun _ _ h tk hj F N => hj _ (done h tk) F N)
end
theorem room_d {dp un k0 k : Nat} {gd : Option (List Code)} {outer : List Env} {env : Env} (h : dp + k0 < recursionLimit) (hk : k + 1 ≤ k0) : ((ar dp un gd outer).deeper env).depth + k < recursionLimit := by
  have e : ((ar dp un gd outer).deeper env).depth = dp + 1 := rfl
  rw [e]; omega
theorem room_u {dp un k0 k : Nat} {gd : Option (List Code)} {outer : List Env} {env : Env} (h : un + 8 * k0 < cLine) (hk : 8 * k + 3 ≤ 8 * k0) : ((ar dp un gd outer).deeper env).units + 8 * k < cLine := by
  have e : ((ar dp un gd outer).deeper env).units = un + 3 := rfl
  rw [e]; omega
theorem notIn_lt {D : Addr} {l : Led} (h : ∀ p ∈ l, p.1 < D) : NotIn D (l.map (·.1)) := notIn_of fun q hq => Ne.symm (Nat.ne_of_lt (h q hq))
theorem spec_codeC {prog : Program} {w : World} {K : Frag} {k : Nat} {f : Addr} {args : List Value} {need : Led} {H : (Value → Led → Prop) → Prop}
    {p : Program} {loose : List Str} {mean : ExcName → Option Value} {mg mb : Str → Option Value} {A A₀ : Around} {env : Env} {outer : List Env} {base h₀ : Heap} {L : Addr} {m : Str → Option Value} {s : Shared} {led keep : Led} {as : List Addr} {R : Result → Shared → Prop}
    (S : Spec prog w K k f args need (Cps H)) (B : Below A₀ base outer h₀) (F : Fr h₀ L s.heap m) (X : K.In h₀) (T : Top p loose mean mg mb h₀) (N : News h₀ L s.heap led)
    (hA : A.frames = some (env :: outer)) (hh : A.handled = none) (hf : env.frame = some L) (hke : env.scope.kind = .function)
    (hsub : ∀ p ∈ need, p ∈ led) (has : need.map (·.1) = as) (hrest : Rest as led keep)
    (hd : A.depth + k < recursionLimit) (hu : A.units + 8 * k < cLine)
    (ret : H fun v need' => ∀ h' tk', (∀ p ∈ need', NotIn p.1 (keep.map (·.1))) → Fr h₀ L h' m → News h₀ L h' (need' ++ keep) → R (.ok (.ret v)) { s with heap := h', toks := tk' }) :
    codeAny (model prog w) A (.call (.ref f) ⟨args, []⟩) R s :=
  spec_code S B F X T N hA hh hf hke keep hsub hrest.sub (fun p hp q hq => hrest.off p hp q.1 (by subst has; exact List.mem_map_of_mem hq)) hd hu
    fun _ _ h' tk' hp ho F' N' => hp _ ret h' tk' (fun p hp => notIn_of (ho p hp)) F' N'
theorem Rest.allKeep {as : List Addr} : ∀ {l : Led}, (∀ p ∈ l, NotIn p.1 as) → Rest as l l
  | [], _ => .nil
  | p :: _, h => .keep (h p (.head _)) (Rest.allKeep fun q hq => h q (.tail _ hq))
theorem cls_callC {prog : Program} {w : World} {K : Frag} {k : Nat} {C fI : Addr} {pos : List Value} {H : Addr → Addr → (Value → Led → Prop) → Prop}
    {p : Program} {loose : List Str} {mean : ExcName → Option Value} {mg mb : Str → Option Value} {A A₀ : Around} {env : Env} {outer : List Env} {base h₀ : Heap} {L : Addr} {m : Str → Option Value} {s : Shared} {led : Led} {Q E : Value → Shared → Prop}
    (S : ∀ x dx, x ≠ dx → Spec prog w K k fI (.ref x :: pos) [(x, instObj C dx), (dx, dictOf [] 0)] (Cps (H x dx))) (hm : makesIn K C = true) (hi : findIn K (.ref C) "__init__" = some (some (.ref fI))) (hfn : isFn K (.ref fI) = true)
    (B : Below A₀ base outer h₀) (F : Fr h₀ L s.heap m) (X : K.In h₀) (T : Top p loose mean mg mb h₀) (N : News h₀ L s.heap led)
    (hA : A.frames = some (env :: outer)) (hh : A.handled = none) (hf : env.frame = some L) (hke : env.scope.kind = .function)
    (hd : A.depth + 1 + k < recursionLimit) (hu : A.units + 8 + 8 * k < cLine)
    (ret : ∀ x dx, x ≠ dx → H x dx fun v need' => ∀ h' tk', (∀ p ∈ need', NotIn p.1 (led.map (·.1))) → Fr h₀ L h' m → News h₀ L h' (need' ++ led) → v = .none ∧ Q (.ref x) { s with heap := h', toks := tk' }) :
    wpAny (model prog w) A (call (.ref C) pos) Q E s := by
  refine call_cls F X N hm hi hfn fun x dx h₁ F₁ N₁ l1 l2 => ?_
  generalize hc : Code.builtin "type.__call__" { pos := Value.ref C :: pos, kw := [] } = c
  have e1 : (A.under c).depth = A.depth + 1 := by subst hc; rfl
  have e2 : (A.under c).units = A.units + 1 := by subst hc; rfl
  have e3 : (A.under c).frames = some (env :: outer) := by subst hc; exact hA
  refine spec_codeC (as := [x, dx]) (S x dx (Nat.ne_of_gt l2)) B F₁ X T N₁ e3 hh hf hke (sub_cons (.head _) (sub_cons (.tail _ (.head _)) sub_nil)) rfl
    (.drop (.head _) (.drop (.tail _ (.head _)) (Rest.allKeep fun q hq => ⟨Nat.ne_of_lt (Nat.lt_trans (l1 q hq) l2), Nat.ne_of_lt (l1 q hq), True.intro⟩))) ?_ ?_ ?_
  · omega
  · omega
  · exact ret x dx (Nat.ne_of_gt l2)
end
section
section
variable {prog : Program} {w : World} {A : Around} {E : Value → Shared → Prop} {s : Shared} {h₀ : Heap} {L : Addr} {m : Str → Option Value} {env : Env}
def EnKeep (J : Addr) (q : Addr × Obj) (nw' nw : Led) : Prop := (∀ p ∈ nw, p ∈ nw') ∧ (∀ p ∈ nw, p.1 ≠ J) ∧ q ∈ nw
def EnNext (P : Prop) : Prop := P
theorem EnNext.mk {P : Prop} (h : P) : EnNext P := h
def EnRest (prog : Program) (w : World) (A : Around) (h₀ : Heap) (L : Addr) (m : Str → Option Value) (env : Env) (c elt : PySem.Expr) (a b : Str) (scope : Scope) (cl : List (Str × Addr)) (s : Shared) (J : Addr) (q : Addr × Obj)
    (Fin : List Value → Led → Prop) : List ((Tok → Value) × Value) → List Value → Led → Prop
  | [], ys, news => Fin ys news
  | p :: r, ys, news => ∀ oJ, NotIn J (news.map (·.1)) → KctRest prog w A h₀ L m env c elt a b scope cl s (fun nw => (J, oJ) ∈ nw ∧ q ∈ nw)
      (fun ys' nw' => EnNext (∃ nw, EnKeep J q nw' nw ∧ EnRest prog w A h₀ L m env c elt a b scope cl s J q Fin r ys' nw)) [p] ys ((J, oJ) :: news)
theorem EnRest.nil {c elt : PySem.Expr} {a b : Str} {scope : Scope} {cl : List (Str × Addr)} {J : Addr} {q : Addr × Obj} {Fin : List Value → Led → Prop} {ys : List Value} {news : Led} (h : Fin ys news) :
    EnRest prog w A h₀ L m env c elt a b scope cl s J q Fin [] ys news := h
theorem EnRest.cons {c elt : PySem.Expr} {a b : Str} {scope : Scope} {cl : List (Str × Addr)} {J : Addr} {q : Addr × Obj} {Fin : List Value → Led → Prop} {p : (Tok → Value) × Value} {r : List ((Tok → Value) × Value)} {ys : List Value} {news : Led}
    (h : ∀ oJ, NotIn J (news.map (·.1)) → KctRest prog w A h₀ L m env c elt a b scope cl s (fun nw => (J, oJ) ∈ nw ∧ q ∈ nw)
      (fun ys' nw' => EnNext (∃ nw, EnKeep J q nw' nw ∧ EnRest prog w A h₀ L m env c elt a b scope cl s J q Fin r ys' nw)) [p] ys ((J, oJ) :: news)) :
    EnRest prog w A h₀ L m env c elt a b scope cl s J q Fin (p :: r) ys news := h
def enPairs (i : Int) : List Value → List ((Tok → Value) × Value)
  | [] => []
  | v :: r => (fun t => .int i t, v) :: enPairs (i + 1) r
theorem enPairs_drop {vs : List Value} : ∀ {i : Nat} {k : Int} {x : Value}, vs[i]? = some x → (enPairs k vs).drop i = (fun t => .int (k + (i : Int)) t, x) :: (enPairs k vs).drop (i + 1) := by
  induction vs with
  | nil => intro i k x h; simp at h
  | cons v r ih =>
    intro i k x h
    cases i with
    | zero => simp at h; subst h; simp [enPairs]
    | succ i =>
      rw [List.getElem?_cons_succ] at h
      simp only [enPairs, List.drop_succ_cons]
      rw [ih h]
      have e : k + 1 + (i : Int) = k + ((i + 1 : Nat) : Int) := by omega
      rw [e]
theorem enPairs_all {vs : List Value} : ∀ {k : Int}, (enPairs k vs).drop vs.length = [] := by
  induction vs with
  | nil => intro k; rfl
  | cons v r ih => intro k; simp only [enPairs, List.length_cons, List.drop_succ_cons]; exact ih
def EnSrc (prog : Program) (w : World) (A : Around) (h₀ : Heap) (L : Addr) (m : Str → Option Value) (env : Env) (c elt : PySem.Expr) (a b : Str) (scope : Scope) (cl : List (Str × Addr)) (Fin : Shared → List Value → Led → Prop) (xv : Value) (s₁ : Shared) : Prop :=
  ∃ e J l ol vs news, xv = .ref e ∧ A.handled = none ∧ Fr h₀ L s₁.heap m ∧ News h₀ L s₁.heap news ∧ IsEnum s₁.heap e J 0 .none ∧ s₁.heap.IsListIter J l 0 ∧ e ≠ J ∧ l ≠ e ∧ l ≠ J ∧ L ≠ e ∧ L ≠ J ∧ h₀.get? e = none ∧ h₀.get? J = none ∧
    (∀ p ∈ news, p.1 ≠ e ∧ p.1 ≠ J) ∧ (l, ol) ∈ news ∧ ol.cls = .type "list" ∧ (∃ n, ol.data = .seq (vs : List Value).toArray n) ∧ vs.length ≤ sizeLine ∧
    ∀ g : Heap, EnRest prog w A h₀ L m env c elt a b scope cl { s₁ with heap := g } J (l, ol) (Fin { s₁ with heap := g }) (enPairs 0 vs) [] news
theorem en_call {c elt : PySem.Expr} {a b : Str} {scope : Scope} {cl : List (Str × Addr)} {Fin : Shared → List Value → Led → Prop} {l : Addr} {vs : List Value} {n : Nat} {news : Led} (hh : A.handled = none) (F : Fr h₀ L s.heap m) (N : News h₀ L s.heap news)
    (hm : (l, ({ cls := .type "list", data := .seq vs.toArray n } : Obj)) ∈ news) (hsz : vs.length ≤ sizeLine)
    (h : ∀ J g tk, EnRest prog w A h₀ L m env c elt a b scope cl { s with heap := g, toks := tk } J (l, ({ cls := .type "list", data := .seq vs.toArray n } : Obj)) (Fin { s with heap := g, toks := tk }) (enPairs 0 vs) [] news) :
    wpAny (model prog w) A (call (.type "enumerate") [.ref l]) (EnSrc prog w A h₀ L m env c elt a b scope cl Fin) E s := by
  have hL : s.heap.IsList l vs.toArray := ⟨_, (N _ hm).1, rfl, _, rfl⟩
  have hl : l < s.heap.objs.size := Heap.lt_size (N _ hm).1
  have fresh : ∀ a, s.heap.objs.size ≤ a → h₀.get? a = none := fun a ha => by
    cases e : h₀.get? a with
    | none => rfl
    | some o' => exact absurd (Heap.lt_size (F.keep a o' e)) (Nat.not_lt.mpr ha)
  have hLl : L < s.heap.objs.size := F.ns.lt
  refine call_enumerate_list hL fun h' he hit hsz' hk => ?_
  refine ⟨_, _, l, _, vs, news, rfl, hh, F.keeps hk, N.grown hk, he, hit, ?_, ?_, ?_, ?_, ?_, ?_, ?_, fun p hp => ?_, hm, rfl, ⟨_, rfl⟩, hsz, fun g => h _ g s.toks⟩
  · exact Nat.ne_of_gt (Nat.lt_succ_self _)
  · exact Nat.ne_of_lt (Nat.lt_succ_of_lt hl)
  · exact Nat.ne_of_lt hl
  · exact Nat.ne_of_lt (Nat.lt_succ_of_lt hLl)
  · exact Nat.ne_of_lt hLl
  · exact fresh _ (Nat.le_succ _)
  · exact fresh _ (Nat.le_refl _)
  · have := Heap.lt_size (N p hp).1
    exact ⟨Nat.ne_of_lt (Nat.lt_succ_of_lt this), Nat.ne_of_lt this⟩
set_option maxHeartbeats 1000000 in
abbrev EnInv (prog : Program) (w : World) (A : Around) (h₀ : Heap) (L : Addr) (m : Str → Option Value) (env : Env) (c elt : PySem.Expr) (a b : Str) (scope : Scope) (cl : List (Str × Addr)) (s₁ : Shared) (e J l : Addr) (ol : Obj) (C D : Addr) (vs : List Value) (Q : Value → Shared → Prop) (k : Nat) (s' : Shared) : Prop :=
  ∃ (h' : Heap) (tk i : Nat) (ys : List Value) (m' : Str → Option Value) (nw : Led), s' = { s₁ with heap := h', toks := tk } ∧ i ≤ vs.length ∧ k = vs.length + 1 - i ∧ ys.length ≤ i ∧ (∃ old, IsEnum h' e J i old) ∧ h'.IsListIter J l i ∧ Fr h₀ L h' m ∧ h'.Ns C m' ∧
      News h₀ L h' ((D, LCg.lst ys) :: nw) ∧ LCg.Off3 e C D nw ∧ (∀ p ∈ nw, p.1 ≠ J) ∧ (l, ol) ∈ nw ∧ EnRest prog w A h₀ L m env c elt a b scope cl { s₁ with heap := s₁.heap } J (l, ol) (LCg.FinE h₀ L m { s₁ with heap := s₁.heap } Q) ((enPairs 0 vs).drop i) ys nw
theorem en_ListComp {elt iter c : PySem.Expr} {a b : Str} {pa pb tp : Pos} {kk : Nat} {scope : Scope} {cl : List (Str × Addr)} {pos : Pos} {Q : Value → Shared → Prop} (_F₀ : Fr h₀ L s.heap m)
    (hclos : closureFor scope env = pure cl) (hcell : ∀ y ∈ scope.names, y.2 ≠ .cell) (hkind : scope.kind = .function)
    (hnames : ∀ y ∈ scope.names, y.2 = .local → scope.names.lookup y.1 = some .local) (hxa : scope.names.lookup a = some .local) (hxb : scope.names.lookup b = some .local) (hab : ¬ a = b)
    (h : wpAny (model prog w) A (eval iter env) (EnSrc prog w A h₀ L m env c elt a b scope cl (fun s₂ => LCg.FinE h₀ L m s₂ Q)) E s)
    (hs : ∀ x, foldedSetIterable iter env x = pure x := by intro _; rfl) :
    wpAny (model prog w) A (eval (.ListComp elt [⟨.Tuple [.Name a pa, .Name b pb] kk tp, iter, [c], 0⟩] scope pos) env) Q E s := by
  rw [eval_ListComp]
  refine wpAny_comprehension_free (use := none) rfl hs hclos hkind hnames (wpAny_mono h (fun xv s₁ h₁ => ?_) fun _ _ e => e)
  obtain ⟨e, J, l, ol, vs, news, rfl, hh, F, N, he, hit, heJ, hle, hlJ, hLe, hLJ, he₀, hJ₀, off, hm, hcl, ⟨n0, hd⟩, hsz, R⟩ := h₁
  refine wpAny_pyIter_enum he ?_
  refine wpAny_newObj_type (wpAny_newFunctionEnv hcell (by intro y hy; simp at hy) (fun h₁ hns₁ hsb₁ => ?_) hkind)
  dsimp only at hns₁ hsb₁ ⊢
  generalize hH2 : s₁.heap.push { cls := .type "list", dict := none, data := .seq ([] : List Value).toArray } = H2 at hns₁ hsb₁ ⊢
  have hC : H2.objs.size = s₁.heap.objs.size + 1 := by rw [← hH2, Heap.size_push]
  generalize hDD : s₁.heap.objs.size = D at *
  generalize hCC : H2.objs.size = C at *
  have low : ∀ b o, s₁.heap.get? b = some o → b < D := fun b o e => hDD ▸ Heap.lt_size e
  have below : ∀ b, b < D → b ≠ C ∧ b ≠ D := fun b hb => ⟨Nat.ne_of_lt (by rw [hC]; exact Nat.lt_succ_of_lt hb), Nat.ne_of_lt hb⟩
  have hDC : D ≠ C := by rw [hC]; exact Nat.ne_of_lt (Nat.lt_succ_self _)
  have oldp : ∀ b o, s₁.heap.get? b = some o → H2.get? b = some o := fun b o e => hH2 ▸ Heap.get?_push_of_some _ e
  have old : ∀ b o, s₁.heap.get? b = some o → h₁.get? b = some o := fun b o e => hsb₁.extBut b o (below b (low b o e)).1 (Heap.get?_push_of_some _ (oldp b o e))
  have hacc : h₁.get? D = some (LCg.lst []) := hsb₁.extBut _ _ hDC (Heap.get?_push_of_some _ (by rw [← hDD, ← hH2]; exact Heap.get?_push_size _ rfl))
  have fresh₀ : ∀ a, D ≤ a → h₀.get? a = none := fun a ha => by
    cases z : h₀.get? a with
    | none => rfl
    | some o' => exact absurd (low _ _ (F.keep a o' z)) (Nat.not_lt.mpr ha)
  have hD₀ := fresh₀ D (Nat.le_refl _)
  have hC₀ := fresh₀ C (by rw [hC]; exact Nat.le_succ _)
  have eC := below e (low _ _ he)
  obtain ⟨oJ0, hJg, _⟩ := id hit
  have JC := below J (low _ _ hJg)
  have LC := below L (hDD ▸ F.ns.lt)
  have W := WalksT.enumerate (prog := prog) (w := w) hh e J l heJ hle hlJ vs.toArray
  have isl : ∀ h nw, News h₀ L h nw → (l, ol) ∈ nw → h.IsList l vs.toArray := fun h nw N hm => ⟨_, (N _ hm).1, hcl, n0, hd⟩
  have loop : ∀ s₃ : Shared, s₃ = { s₁ with heap := h₁, toks := s₁.toks + ([] : List (Str × Value)).length } →
      codeAny (model prog w) A (.compLoop (.ListComp elt [⟨.Tuple [.Name a pa, .Name b pb] kk tp, iter, [c], 0⟩] scope pos) 0 (.ref e) (.ref D) (compEnvC scope cl C env))
        (compPost (model prog w) A E none Q (.ref D) C) s₃ := by
    rintro s₃ rfl
    refine kct_loop (EnInv prog w A h₀ L m env c elt a b scope cl s₁ e J l ol C D vs Q) ?_ (vs.length + 1)
      ⟨h₁, _, 0, [], _, news, rfl, Nat.zero_le _, rfl, Nat.le_refl _, ⟨_, old _ _ he⟩, hit.at (old J), F.keeps old, hns₁, fun p hp => ?_, LCg.Off3.of fun p hp => ⟨(off p hp).1, below _ (low _ _ (N p hp).1)⟩, fun p hp => (off p hp).2, hm, by rw [List.drop_zero]; exact R _⟩
    · rintro k s' ⟨h', tk, i, ys, m', nw, rfl, hi, rfl, hyl, hen, hli, F', hn', N', off', hnJ, hq, R'⟩
      have off3 := off'.mem
      have N'' : News h₀ L h' nw := fun p hp => N' p (.tail _ hp)
      by_cases hlt : i < vs.length
      · refine W.item i _ _ _ (by simpa using hlt) ⟨hen, hli, isl _ _ N'' hq⟩ fun T vals h₂ tk₂ hP _ hT hMd hk₂ => ?_
        have hTw := W.apart _ _ _ hMd
        refine W.go _ _ _ i T _ _ _ hMd fun h₃ hst₃ hk₃ => ?_
        obtain ⟨t, x, hx, rfl⟩ := hP
        have hx' : vs[i]? = some x := by simpa using hx
        have up₃ : ∀ c o, c ≠ e → c ≠ J → h'.get? c = some o → h₃.get? c = some o := fun c o h1 h2 z => hk₃ c o (by simp [h1, h2]) (hk₂ c o (by simp [h1, h2]) z)
        have hT₃ : h₃.IsTuple T #[.int i t, x] := hT.at fun o z => hk₃ T o hTw z
        refine kcp_assign (env := compEnvC scope cl C env) hh hT₃ (lookup_relabel_local hxa) (lookup_relabel_local hxb) (by simp [compEnvC, relabel, hkind]) (hn'.at' fun o z => up₃ _ o (Ne.symm eC.1) (Ne.symm JC.1) z) fun h₄ tk₄ hn₄ hs₄ => ?_
        have up : ∀ c o, c ≠ e → c ≠ J → c ≠ C → h'.get? c = some o → h₄.get? c = some o := fun c o h1 h2 h3 z => hs₄ c o h3 (up₃ c o h1 h2 z)
        obtain ⟨⟨old', hI₃⟩, hJ₃, _⟩ := hst₃
        obtain ⟨oI, hI₄, hoI⟩ : ∃ oI : Obj, h₄.get? e = some oI ∧ ∀ h : Heap, h.get? e = some oI → ∃ old, IsEnum h e J ((i + 1 : Nat) : Int) old := ⟨_, hs₄ e _ eC.1 hI₃, fun _ z => ⟨_, z⟩⟩
        obtain ⟨oJ, hJ₃', hJ₃''⟩ := hJ₃
        have hJ₄ := hs₄ J _ JC.1 hJ₃'
        obtain ⟨oC, heC, hoC⟩ := LCg.ns_obj hn₄
        have F₄ : Fr h₀ L h₄ m := ⟨F'.ns.at' fun o z => up _ o hLe hLJ LC.1 z, fun c o z => up c o (fun q => by rw [q, he₀] at z; cases z) (fun q => by rw [q, hJ₀] at z; cases z) (fun q => by rw [q, hC₀] at z; cases z) (F'.keep c o z), F'.above⟩
        have R₂ := R'
        rw [enPairs_drop hx'] at R₂
        have R₃ := R₂ oJ (notIn_of fun p hp => Ne.symm (hnJ p hp))
        rw [Int.zero_add] at R₃
        have N₄ := fun p (hp : p ∈ nw) => up _ _ (off3 p hp).1 (hnJ p hp) (off3 p hp).2.1 (N'' p hp).1
        have NN : News h₀ L h₄ ((e, oI) :: (C, oC) :: (D, LCg.lst ys) :: (J, oJ) :: nw) := by
          intro p hp
          rcases List.mem_cons.mp hp with rfl | hp
          · exact ⟨hI₄, Ne.symm hLe, he₀⟩
          rcases List.mem_cons.mp hp with rfl | hp
          · exact ⟨heC, Ne.symm LC.1, hC₀⟩
          rcases List.mem_cons.mp hp with rfl | hp
          · exact ⟨up _ _ (Ne.symm eC.2) (Ne.symm JC.2) hDC (N' _ (.head _)).1, Ne.symm LC.2, hD₀⟩
          rcases List.mem_cons.mp hp with rfl | hp
          · exact ⟨hJ₄, Ne.symm hLJ, hJ₀⟩
          · exact ⟨N₄ p hp, (N'' p hp).2⟩
        have fin : ∀ (ys' : List Value) (h₅ : Heap) (tk₅ : Nat) (nw₅ : Led), ys'.length ≤ i + 1 → Fr h₀ L h₅ m → News h₀ L h₅ ((e, oI) :: (C, oC) :: (D, LCg.lst ys') :: nw₅) → LCg.Off3 e C D nw₅ → ((J, oJ) ∈ nw₅ ∧ (l, ol) ∈ nw₅) →
            EnNext (∃ nw, EnKeep J (l, ol) nw₅ nw ∧ EnRest prog w A h₀ L m env c elt a b scope cl { s₁ with heap := s₁.heap } J (l, ol) (LCg.FinE h₀ L m { s₁ with heap := s₁.heap } Q) ((enPairs 0 vs).drop (i + 1)) ys' nw) →
            ∃ q', q' < vs.length + 1 - i ∧ EnInv prog w A h₀ L m env c elt a b scope cl s₁ e J l ol C D vs Q q' { s₁ with heap := h₅, toks := tk₅ } := by
          intro ys' h₅ tk₅ nw₅ hl F₅ N₅ off₅ hS₅ ⟨nw₆, hr, R₆⟩
          have zI := (N₅ _ (.head _)).1
          have zC := (N₅ _ (.tail _ (.head _))).1
          have zJ := (N₅ _ (.tail _ (.tail _ (.tail _ hS₅.1)))).1
          refine ⟨vs.length + 1 - (i + 1), by omega, h₅, tk₅, i + 1, ys', _, nw₆, rfl, hlt, rfl, hl, hoI _ zI, ⟨_, zJ, hJ₃''⟩, F₅, hoC.ns zC, fun p hp => ?_, LCg.Off3.of fun p hp => off₅.mem p (hr.1 p hp), fun p hp => hr.2.1 p hp, hr.2.2, R₆⟩
          rcases List.mem_cons.mp hp with rfl | hp
          · exact N₅ _ (.tail _ (.tail _ (.head _)))
          · exact N₅ _ (.tail _ (.tail _ (.tail _ (hr.1 p hp))))
        refine wpAny_mono (R₃ t e oI C oC D _ h₄ _ _ hoC (by simp [hab]) (by simp) F₄ NN ⟨⟨Ne.symm heJ, JC.1, JC.2⟩, off'⟩ ⟨eC.1, eC.2, Ne.symm hDC⟩) (fun okb s₅ h₅ => ?_) fun _ _ z => z
        cases okb with
        | false =>
          simp only [Bool.false_eq_true, if_false] at h₅ ⊢
          obtain ⟨h₅, tk₅, nw₅, rfl, F₅, N₅, off₅, hS₅, R₅⟩ := h₅
          exact fin ys h₅ tk₅ nw₅ (Nat.le_succ_of_le hyl) F₅ N₅ off₅ hS₅ R₅
        | true =>
          simp only [if_true] at h₅ ⊢
          refine wpAny_mono h₅ (fun y s₆ h₆ => ?_) fun _ _ z => z
          obtain ⟨h₅, tk₅, nw₅, rfl, F₅, N₅, off₅, hS₅, R₅⟩ := h₆
          have zD := (N₅ (D, LCg.lst ys) (.tail _ (.tail _ (.head _)))).1
          refine append_at (hsz := by show ys.toArray.size ≤ sizeLine; rw [List.size_toArray]; exact Nat.le_trans hyl (Nat.le_trans hi hsz)) zD fun h₆ hs₆ hD₆ => ?_
          refine fin (ys ++ [y]) h₆ _ nw₅ (by rw [List.length_append, List.length_singleton]; exact Nat.succ_le_succ hyl) (F₅.change hs₆ (Ne.symm LC.2) hD₀) (fun p hp => ?_) off₅ hS₅ R₅
          rcases List.mem_cons.mp hp with rfl | hp
          · exact ⟨hs₆.extBut _ _ eC.2 (N₅ _ (.head _)).1, (N₅ _ (.head _)).2⟩
          rcases List.mem_cons.mp hp with rfl | hp
          · exact ⟨hs₆.extBut _ _ (Ne.symm hDC) (N₅ _ (.tail _ (.head _))).1, (N₅ _ (.tail _ (.head _))).2⟩
          rcases List.mem_cons.mp hp with rfl | hp
          · exact ⟨hD₆.trans (congrArg some (LCg.lst_snoc ys y)), Ne.symm LC.2, hD₀⟩
          · have z := N₅ p (.tail _ (.tail _ (.tail _ hp)))
            exact ⟨hs₆.extBut _ _ (off₅.mem p hp).2.2 z.1, z.2⟩
      · obtain rfl : i = vs.length := Nat.le_antisymm hi (Nat.not_lt.mp hlt)
        have R₂ := R'
        rw [enPairs_all] at R₂
        refine W.done _ _ _ ⟨by simpa using hen, by simpa using hli, isl _ _ N'' hq⟩ fun h₂ tk₂ hk₂ => ?_
        have up : ∀ c o, c ≠ e → c ≠ J → h'.get? c = some o → h₂.get? c = some o := fun c o h1 h2 z => hk₂ c o (by simp [h1, h2]) z
        refine ⟨m', hn'.at' fun o z => up _ o (Ne.symm eC.1) (Ne.symm JC.1) z, fun h'' hs'' => ?_⟩
        have up'' : ∀ c o, c ≠ e → c ≠ J → c ≠ C → h'.get? c = some o → h''.get? c = some o := fun c o h1 h2 h3 z => hs''.extBut c o h3 (up c o h1 h2 z)
        refine R₂ D h'' tk₂ ⟨F'.ns.at' fun o z => up'' _ o hLe hLJ LC.1 z, fun c o z => up'' c o (fun q => by rw [q, he₀] at z; cases z) (fun q => by rw [q, hJ₀] at z; cases z) (fun q => by rw [q, hC₀] at z; cases z) (F'.keep c o z), F'.above⟩ (fun p hp => ?_) off'.one
        rcases List.mem_cons.mp hp with rfl | hp
        · exact ⟨up'' _ _ (Ne.symm eC.2) (Ne.symm JC.2) hDC (N' _ (.head _)).1, (N' _ (.head _)).2⟩
        · exact ⟨up'' _ _ (off3 p hp).1 (hnJ p hp) (off3 p hp).2.1 (N'' p hp).1, (N'' p hp).2⟩
    · rcases List.mem_cons.mp hp with rfl | hp
      · exact ⟨hacc, Ne.symm LC.2, hD₀⟩
      · exact ⟨old _ _ (N p hp).1, (N p hp).2⟩
  exact codeAny_compStart_list (loop _ rfl) (wpAny_pyIter_enum (old _ _ he) (loop _ rfl))
theorem comp_loop {elt : PySem.Expr} {x : Str} {scope : Scope} {cl : List (Str × Addr)} {S : Led → Prop} {P : Nat → Value → Prop} {Fin : List Value → Led → Prop} {n : Nat} {news : Led} (J : Nat → List Value → Led → Prop) (h0 : J 0 [] news)
    (turn : ∀ i ys nw v I oI C oC D m₂ h tk (E' : Value → Shared → Prop), i < n → J i ys nw → P i v → LCg.NsObj oC m₂ → m₂ x = some v → Fr h₀ L h m → News h₀ L h ((I, oI) :: (C, oC) :: (D, LCg.lst ys) :: nw) → LCg.Off3 I C D nw → ((@Ne Nat I C) ∧ (@Ne Nat I D) ∧ (@Ne Nat C D)) →
      wpAny (model prog w) A (eval elt (compEnvC scope cl C env)) (LCg.CompEnd h₀ L m { s with heap := h, toks := tk } I oI C oC D (LCg.lst ys) S (fun y nw' => J (i + 1) (ys ++ [y]) nw')) E' { s with heap := h, toks := tk })
    (fin : ∀ ys nw, J n ys nw → Fin ys nw) : LCg.CompRest prog w A h₀ L m env elt x scope cl s S P Fin n 0 [] news := by
  have key : ∀ k i ys nw, i + k = n → J i ys nw → LCg.CompRest prog w A h₀ L m env elt x scope cl s S P Fin k i ys nw := by
    intro k
    induction k with
    | zero =>
      intro i ys nw hi hj
      obtain rfl : i = n := by omega
      exact LCg.CompRest.zero (fin ys nw hj)
    | succ k ih =>
      intro i ys nw hi hj
      refine LCg.CompRest.succ fun v I oI C oC D m₂ h tk E' hv hC hx F N off ne => wpAny_mono (turn i ys nw v I oI C oC D m₂ h tk E' (by omega) hj hv hC hx F N off ne) (fun y s₂ q => ?_) fun _ _ e => e
      obtain ⟨h', tk', nw', e, F', N', off', hS, hj'⟩ := q
      exact ⟨h', tk', nw', e, F', N', off', hS, ih (i + 1) _ nw' (by omega) hj'⟩
  exact key n 0 [] news (by omega) h0
theorem KctRest_mono {c elt : PySem.Expr} {a b : Str} {scope : Scope} {cl : List (Str × Addr)} {S : Led → Prop} {Fin Fin' : List Value → Led → Prop} {p : (Tok → Value) × Value} {ys : List Value} {news : Led} (hf : ∀ ys nw, Fin ys nw → Fin' ys nw)
    (h : KctRest prog w A h₀ L m env c elt a b scope cl s S Fin [p] ys news) : KctRest prog w A h₀ L m env c elt a b scope cl s S Fin' [p] ys news := by
  refine KctRest.cons fun t I oI C oC D m₂ h1 tk E' hC ha hb F N off ne => wpAny_mono (h t I oI C oC D m₂ h1 tk E' hC ha hb F N off ne) (fun okb s₃ q => ?_) fun _ _ e => e
  cases okb with
  | true =>
    simp only [if_true] at q ⊢
    refine wpAny_mono q (fun y s₄ r => ?_) fun _ _ e => e
    obtain ⟨h', tk', nw, e, F', N', off', hS, hr⟩ := r
    exact ⟨h', tk', nw, e, F', N', off', hS, hf _ _ hr⟩
  | false =>
    simp only [Bool.false_eq_true, if_false] at q ⊢
    obtain ⟨h', tk', nw, e, F', N', off', hS, hr⟩ := q
    exact ⟨h', tk', nw, e, F', N', off', hS, hf _ _ hr⟩
theorem en_keep {J : Addr} {q : Addr × Obj} {nw' nw : Led} {P : Led → Prop} (hs : ∀ p ∈ nw, p ∈ nw') (hJ : NotIn J (nw.map (·.1))) (hq : q ∈ nw) (hj : P nw) : EnNext (∃ nw₂, EnKeep J q nw' nw₂ ∧ P nw₂) := ⟨nw, ⟨hs, fun p hp => notIn_ne hJ p hp, hq⟩, hj⟩
theorem en_loop {c elt : PySem.Expr} {a b : Str} {scope : Scope} {cl : List (Str × Addr)} {I₀ : Addr} {q : Addr × Obj} {Fin : List Value → Led → Prop} {vs : List Value} {news : Led} (J : Nat → List Value → Led → Prop) (h0 : J 0 [] news)
    (turn : ∀ (i : Nat) ys nw v oJ, vs[i]? = some v → J i ys nw → NotIn I₀ (nw.map (·.1)) → KctRest prog w A h₀ L m env c elt a b scope cl s (fun nw => (I₀, oJ) ∈ nw ∧ q ∈ nw)
      (fun ys' nw' => EnNext (∃ nw₂, EnKeep I₀ q nw' nw₂ ∧ J (i + 1) ys' nw₂)) [((fun t => Value.int (i : Int) t), v)] ys ((I₀, oJ) :: nw))
    (fin : ∀ ys nw, J vs.length ys nw → Fin ys nw) : EnRest prog w A h₀ L m env c elt a b scope cl s I₀ q Fin (enPairs 0 vs) [] news := by
  have key : ∀ vs' i ys nw, vs.drop i = vs' → J i ys nw → i + vs'.length = vs.length → EnRest prog w A h₀ L m env c elt a b scope cl s I₀ q Fin (enPairs (i : Int) vs') ys nw := by
    intro vs'
    induction vs' with
    | nil =>
      intro i ys nw _ hj hi
      obtain rfl : i = vs.length := by simpa using hi
      exact EnRest.nil (fin ys nw hj)
    | cons v r ih =>
      intro i ys nw hd hj hi
      have hv : vs[i]? = some v := by
        have := congrArg (fun l => l[0]?) hd
        simpa using this
      have hr : vs.drop (i + 1) = r := by
        have := congrArg List.tail hd
        simpa using this
      refine EnRest.cons fun oJ hJ => KctRest_mono (fun ys' nw' z => ?_) (turn i ys nw v oJ hv hj hJ)
      obtain ⟨nw₂, hr₂, hj₂⟩ := z
      refine ⟨nw₂, hr₂, ?_⟩
      have := ih (i + 1) ys' nw₂ hr hj₂ (by simp at hi; omega)
      simpa using this
  simpa using key vs 0 [] news rfl h0 (by simp)
abbrev VLed := List Value → Led → Prop
theorem off3_not {I C D : Addr} {l : Led} (h : LCg.Off3 I C D l) (ne : (@Ne Nat I C) ∧ (@Ne Nat I D) ∧ (@Ne Nat C D)) : NotIn I (C :: D :: l.map (·.1)) ∧ NotIn C (D :: l.map (·.1)) ∧ NotIn D (l.map (·.1)) :=
  ⟨⟨ne.1, ne.2.1, notIn_of fun q hq => Ne.symm (h.mem q hq).1⟩, ⟨ne.2.2, notIn_of fun q hq => Ne.symm (h.mem q hq).2.1⟩, notIn_of fun q hq => Ne.symm (h.mem q hq).2.2⟩
theorem comp_loopC {elt : PySem.Expr} {x : Str} {scope : Scope} {cl : List (Str × Addr)} {S : Led → Prop} {P : Nat → Value → Prop} {Fin : List Value → Led → Prop} {n : Nat} {news : Led} (J : Nat → VLed → Prop) (h0 : ∀ G : VLed, J 0 G → G [] news)
    (turn : ∀ i v I oI C oC D m₂ h tk (E' : Value → Shared → Prop), i < n → P i v → LCg.NsObj oC m₂ → m₂ x = some v → Fr h₀ L h m → ((@Ne Nat I C) ∧ (@Ne Nat I D) ∧ (@Ne Nat C D)) → J i fun ys nw => News h₀ L h ((I, oI) :: (C, oC) :: (D, LCg.lst ys) :: nw) → LCg.Off3 I C D nw →
      NotIn I (C :: D :: nw.map (·.1)) → NotIn C (D :: nw.map (·.1)) → NotIn D (nw.map (·.1)) →
      wpAny (model prog w) A (eval elt (compEnvC scope cl C env)) (LCg.CompEnd h₀ L m { s with heap := h, toks := tk } I oI C oC D (LCg.lst ys) S (fun y nw' => ∀ G : VLed, J (i + 1) G → G (ys ++ [y]) nw')) E' { s with heap := h, toks := tk })
    (fin : J n Fin) : LCg.CompRest prog w A h₀ L m env elt x scope cl s S P Fin n 0 [] news :=
  comp_loop (fun i ys nw => ∀ G : VLed, J i G → G ys nw) h0 (fun i _ _ v I oI C oC D m₂ h tk E' hi hj hv hC hx F N off ne => hj _ (turn i v I oI C oC D m₂ h tk E' hi hv hC hx F ne) N off (off3_not off ne).1 (off3_not off ne).2.1 (off3_not off ne).2.2) (fun _ _ hj => hj _ fin)
theorem en_loopC {c elt : PySem.Expr} {a b : Str} {scope : Scope} {cl : List (Str × Addr)} {I₀ : Addr} {q : Addr × Obj} {Fin : List Value → Led → Prop} {vs : List Value} {news : Led} (J : Nat → VLed → Prop) (h0 : ∀ G : VLed, J 0 G → G [] news)
    (turn : ∀ (i : Nat) v oJ, vs[i]? = some v → J i fun ys nw => NotIn I₀ (nw.map (·.1)) → KctRest prog w A h₀ L m env c elt a b scope cl s (fun nw => (I₀, oJ) ∈ nw ∧ q ∈ nw)
      (fun ys' nw' => EnNext (∃ nw₂, EnKeep I₀ q nw' nw₂ ∧ ∀ G : VLed, J (i + 1) G → G ys' nw₂)) [((fun t => Value.int (i : Int) t), v)] ys ((I₀, oJ) :: nw))
    (fin : J vs.length Fin) : EnRest prog w A h₀ L m env c elt a b scope cl s I₀ q Fin (enPairs 0 vs) [] news :=
  en_loop (fun i ys nw => ∀ G : VLed, J i G → G ys nw) h0 (fun i _ _ v oJ hv hj hI => hj _ (turn i v oJ hv) hI) (fun _ _ hj => hj _ fin)
end
end
local macro_rules | `(tactic| walk_at "sp-ne0") => `(tactic| first | with_reducible assumption | with_reducible exact Ne.symm (by with_reducible assumption) | exact NotIn.ne (by with_reducible assumption) _ (by k_mem) | exact Ne.symm (NotIn.ne (by with_reducible assumption) _ (by k_mem)))
local macro_rules | `(tactic| walk_at "sp-om") => `(tactic| first | with_reducible assumption | omega)
local macro_rules | `(tactic| walk_at "sp-neN") => `(tactic| first | exact Nat.ne_of_gt (by with_reducible assumption) | exact Nat.ne_of_lt (by with_reducible assumption) | (refine' neN ?_; omega))
local macro_rules | `(tactic| walk_at "sp-ne") => `(tactic| ((try dsimp only); first | walk_at "sp-ne0" | walk_at "sp-neN" | exact And.left (by assumption) | exact And.right (by assumption) | exact Ne.symm (And.left (by assumption)) | exact Ne.symm (And.right (by assumption))))
local macro_rules | `(tactic| k_ne) => `(tactic| ((try dsimp only); first | walk_at "sp-ne0" | walk_at "sp-neN"))
local macro_rules | `(tactic| walk_at "sp-notin") => `(tactic| first | with_reducible assumption | exact True.intro | (refine' And.intro ?ja ?jb; (case ja => walk_at "sp-ne"); (case jb => walk_at "sp-notin")))
local macro_rules | `(tactic| walk_at "sp-dist") => `(tactic| first | exact True.intro | (refine' And.intro ?jc ?jd; (case jc => walk_at "sp-notin"); (case jd => walk_at "sp-dist")))
local macro_rules | `(tactic| walk_at "sp-rest") => `(tactic| first | exact Rest.nil | (refine' Rest.drop ?ma ?mb; (case ma => k_mem); (case mb => walk_at "sp-rest")) | (refine' Rest.keep ?mc ?md; (case mc => walk_at "sp-notin"); (case md => walk_at "sp-rest")))
local macro_rules | `(tactic| walk_at "sp-sub") => `(tactic| first | exact sub_nil | (refine' sub_cons ?xa ?xb; (case xa => k_mem); (case xb => walk_at "sp-sub")))
local macro_rules | `(tactic| walk_at "sp-len") => `(tactic| first | assumption | ((try simp only [List.length_map, List.length_take] at *); omega))
local macro_rules | `(tactic| walk_at "eval Constant") => `(tactic| (k_here; k_gentoks; (try dsimp only)))
local macro_rules | `(tactic| walk_at "eval Name") => `(tactic| (k_here; k_gentoks; (try dsimp only)))
local macro_rules | `(tactic| walk_at "storeName") => `(tactic| (k_here; k_gentoks; (try dsimp only)))
local macro_rules | `(tactic| walk_at "setItem ref str") => `(tactic| (k_here; k_gentoks; (try dsimp only)))
local macro_rules | `(tactic| walk_at "setItem ref int") => `(tactic| (k_here; k_gentoks; (try dsimp only)))
local macro_rules | `(tactic| walk_at "setAttr") => `(tactic| (k_here; k_gentoks; (try dsimp only)))
local macro_rules | `(tactic| walk_at "assignInOrder") => `(tactic| (k_here; k_gentoks; (try dsimp only)))
local macro_rules | `(tactic| walk_at "evalPairs") => `(tactic| (k_here; k_gentoks; (try dsimp only)))
local macro_rules | `(tactic| k_room) => `(tactic| ktr_room)
local macro_rules | `(tactic| k_units) => `(tactic| ktr_units)
local macro_rules | `(tactic| walk_at "compareChain") => `(tactic| (k_here; k_dflt (first | refine chain_link ?_ | refine chain_last ?_)))
local macro_rules | `(tactic| units_room) => `(tactic| ktr_units)
local macro_rules | `(tactic| walk_at "sp-room") => `(tactic| first | exact room_d (by assumption) (by decide) | ktr_room | exact Nat.le_of_ble_eq_true rfl | (with_unfolding_all exact Nat.le_of_ble_eq_true rfl))
local macro_rules | `(tactic| walk_at "sp-units") => `(tactic| first | exact room_u (by assumption) (by decide) | ktr_units | exact Nat.le_of_ble_eq_true rfl | (with_unfolding_all exact Nat.le_of_ble_eq_true rfl))

local macro_rules | `(tactic| k_lt $h) => `(tactic| (replace $h := notIn_lt $h; (try dsimp only [List.map] at $h:ident)))
set_option hygiene false in
local macro_rules | `(tactic| walk_at "sp-a") => `(tactic| ((case F => k_asm); (case N => k_asm); (case B => k_asm); (case X => k_asm); (case T => k_asm); (case hA => exact rfl); (case hh => exact rfl); (case hf => exact rfl); (case hk => exact rfl)))
set_option hygiene false in
local macro_rules | `(tactic| walk_at "sp-z") => `(tactic| ((case has => exact rfl); (case hrest => walk_at "sp-rest"); (case hd => walk_at "sp-room"); (case hu => walk_at "sp-units"); k_whole))
set_option hygiene false in
local macro_rules | `(tactic| walk_at "sp-n") => `(tactic| ((try clear hO'); (try dsimp only [List.cons_append, List.nil_append] at N'); (try k_sweep); (try dsimp only); (try k_fold)))
set_option hygiene false in
local macro_rules | `(tactic| walk_at "sp-ow") => `(tactic| (refine hW' _ ?_; clear hW'; intro o1' o2' o3' o4' o5' o6' o7' o8' hW'))
set_option hygiene false in
local macro_rules | `(tactic| walk_at "sp-dk") => `(tactic| (refine hD' _ ?_; clear hD'; intro si' da' ds' hD' hs0' hs1'))
set_option hygiene false in
local macro_rules | `(tactic| walk_at "sp-e") => `(tactic| ((case F => assumption); (case N => assumption); (case hs => walk_at "sp-sub")))
set_option hygiene false in
local macro_rules | `(tactic| walk_at "sp-hDk") => `(tactic| case hDk => assumption)
set_option hygiene false in
local macro_rules | `(tactic| walk_at "sp-hW") => `(tactic| case hW => assumption)
set_option hygiene false in
local macro_rules | `(tactic| walk_at "sp-i1") => `(tactic| case i1 => walk_at "sp-om")
set_option hygiene false in
local macro_rules | `(tactic| walk_at "sp-i2") => `(tactic| case i2 => walk_at "sp-om")
set_option hygiene false in
local macro_rules | `(tactic| walk_at "sp-i3") => `(tactic| case i3 => walk_at "sp-om")
set_option hygiene false in
local macro_rules | `(tactic| walk_at "sp-i4") => `(tactic| case i4 => walk_at "sp-om")
set_option hygiene false in
local macro_rules | `(tactic| walk_at "sp-m1") => `(tactic| case m1 => k_mem)
set_option hygiene false in
local macro_rules | `(tactic| walk_at "sp-m2") => `(tactic| case m2 => k_mem)
set_option hygiene false in
local macro_rules | `(tactic| walk_at "sp-m3") => `(tactic| case m3 => k_mem)
set_option hygiene false in
local macro_rules | `(tactic| walk_at "sp-m4") => `(tactic| case m4 => k_mem)
set_option hygiene false in
local macro_rules | `(tactic| walk_at "sp-m5") => `(tactic| case m5 => k_mem)
set_option hygiene false in
local macro_rules | `(tactic| walk_at "sp-m6") => `(tactic| case m6 => k_mem)
set_option hygiene false in
local macro_rules | `(tactic| walk_at "sp-m7") => `(tactic| case m7 => k_mem)
set_option hygiene false in
local macro_rules | `(tactic| walk_at "sp-m8") => `(tactic| case m8 => k_mem)
set_option hygiene false in
local macro_rules | `(tactic| walk_at "sp-m9") => `(tactic| case m9 => k_mem)
set_option hygiene false in
local macro_rules | `(tactic| walk_at "sp-m10") => `(tactic| case m10 => k_mem)
set_option hygiene false in
local macro_rules | `(tactic| walk_at "sp-m11") => `(tactic| case m11 => k_mem)
local macro_rules | `(tactic| walk_at "call ref") => `(tactic| (k_here; k_dflt (k_extra "call ref")))
section
abbrev lsc (vs : List Value) (c : Nat) : Obj := { cls := .type "list", data := .seq vs.toArray c }
structure CK where
  (h1 h2 h3 h4 h5 h6 : Int) (k1 k2 k3 k4 k5 k6 : Tok) (pen grd : Value)
abbrev curD (c : CK) (row col wait org : Value) : Obj :=
  dictOf [⟨c.h1, .str (Str.ofString "row") c.k1, row⟩, ⟨c.h2, .str (Str.ofString "column") c.k2, col⟩, ⟨c.h3, .str (Str.ofString "is_waiting") c.k3, wait⟩, ⟨c.h4, .str (Str.ofString "pen") c.k4, c.pen⟩, ⟨c.h5, .str (Str.ofString "is_origin") c.k5, org⟩, ⟨c.h6, .str (Str.ofString "is_guarding") c.k6, c.grd⟩] 6
structure MK where
  (h1 h2 h3 h4 h5 h6 : Int) (k1 k2 k3 k4 k5 k6 : Tok)
abbrev marD (c : MK) (rows cols top bottom left right : Value) : Obj :=
  dictOf [⟨c.h1, .str (Str.ofString "rows") c.k1, rows⟩, ⟨c.h2, .str (Str.ofString "columns") c.k2, cols⟩, ⟨c.h3, .str (Str.ofString "top") c.k3, top⟩, ⟨c.h4, .str (Str.ofString "bottom") c.k4, bottom⟩, ⟨c.h5, .str (Str.ofString "left") c.k5, left⟩, ⟨c.h6, .str (Str.ofString "right") c.k6, right⟩] 6
structure TK where
  (h1 h2 : Int) (k1 k2 : Tok)
abbrev tabD (c : TK) (cols stops : Value) : Obj :=
  dictOf [⟨c.h1, .str (Str.ofString "columns") c.k1, cols⟩, ⟨c.h2, .str (Str.ofString "stops") c.k2, stops⟩] 2
def fst0 (lo x : Int) : Int := if x ≥ lo then lo else 0
def lst0 (hi n x : Int) : Int := if x ≤ hi then hi else n - 1
def OwnIs (w : World) (oW : Obj) (rows cols top left bottom right row col : Int) (wait org : Bool) (ol : Addr) : Prop :=
  ∀ G : Prop, (∀ o1 o2 o3 o4 o5 o6 o7 o8 : Tok, oW.IsDictOf (PySem.strKind PySem.Challenge.rw_og0257_01.row.prog w) [((Str.ofString "rows"), .int rows o1), ((Str.ofString "columns"), .int cols o2), ((Str.ofString "top"), (.int top o3)), ((Str.ofString "left"), (.int left o4)), ((Str.ofString "bottom"), (.int bottom o5)), ((Str.ofString "right"), (.int right o6)), ((Str.ofString "row"), (.int row o7)), ((Str.ofString "column"), (.int col o8)), ((Str.ofString "wait"), (.bool wait)), ((Str.ofString "origin"), (.bool org)), ((Str.ofString "stops"), (.ref ol))] → G) → G
theorem own_mk {w : World} {oW : Obj} {rows cols top left bottom right row col top' left' bottom' right' row' col' : Int} {wait org wait' org' : Bool} {ol : Addr} {o1 o2 o3 o4 o5 o6 o7 o8 : Tok}
    (h : oW.IsDictOf (PySem.strKind PySem.Challenge.rw_og0257_01.row.prog w) [((Str.ofString "rows"), .int rows o1), ((Str.ofString "columns"), .int cols o2), ((Str.ofString "top"), (.int top o3)), ((Str.ofString "left"), (.int left o4)), ((Str.ofString "bottom"), (.int bottom o5)), ((Str.ofString "right"), (.int right o6)), ((Str.ofString "row"), (.int row o7)), ((Str.ofString "column"), (.int col o8)), ((Str.ofString "wait"), (.bool wait)), ((Str.ofString "origin"), (.bool org)), ((Str.ofString "stops"), (.ref ol))]) (ht : top = top') (hl : left = left') (hb : bottom = bottom') (hr : right = right') (h1 : row = row') (h2 : col = col') (h3 : wait = wait') (h4 : org = org') :
    OwnIs w oW rows cols top' left' bottom' right' row' col' wait' org' ol := by
  subst ht; subst hl; subst hb; subst hr; subst h1; subst h2; subst h3; subst h4
  exact fun _ k => k _ _ _ _ _ _ _ _ h
def DeckIs (w : World) (oD : Obj) (lc : Addr) (a : Int) : Prop :=
  ∀ G : Prop, (∀ (st : Int) (ta ts : Tok), oD.IsDictOf (PySem.strKind PySem.Challenge.rw_og0257_01.row.prog w) [((Str.ofString "cells"), .ref lc), ((Str.ofString "at"), .int a ta), ((Str.ofString "stir"), .int st ts)] → 0 ≤ st → st < 8191 → G) → G
theorem deck_mk {w : World} {oD : Obj} {lc : Addr} {a a' st : Int} {ta ts : Tok} (h : oD.IsDictOf (PySem.strKind PySem.Challenge.rw_og0257_01.row.prog w) [((Str.ofString "cells"), .ref lc), ((Str.ofString "at"), .int a ta), ((Str.ofString "stir"), .int st ts)]) (h1 : 0 ≤ st) (h2 : st < 8191) (h3 : a = a') :
    DeckIs w oD lc a' := by subst h3; exact fun _ k => k _ _ _ h h1 h2
theorem cur_eq {cu dcu : Addr} {cc : CK} {r r' x x' : Int} {t1 t2 : Tok} {wt og : Value} {l : Led} (h1 : r = r') (h2 : x = x') :
    (cu, instObj 74 dcu) :: (dcu, curD cc (.int r t1) (.int x t2) wt og) :: l = (cu, instObj 74 dcu) :: (dcu, curD cc (.int r' t1) (.int x' t2) wt og) :: l := by subst h1; subst h2; rfl
def Keys (w : World) (o : Obj) (ks : List Int) : Prop := o.IsDictOf (intKind PySem.Challenge.rw_og0257_01.row.prog w) (ks.map fun k => (k, Value.bool true))
theorem keys_at (ks : List Int) (y : Int) : (valueAt (ks.map fun k => (k, Value.bool true)) y).isSome = decide (y ∈ ks) := by
  unfold valueAt
  rw [Option.isSome_map, Bool.eq_iff_iff, List.find?_isSome]
  simp only [decide_eq_true_eq]
  constructor
  · rintro ⟨p, hp, e⟩
    obtain ⟨k, hk, rfl⟩ := List.mem_map.mp hp
    exact e ▸ hk
  · exact fun h => ⟨_, List.mem_map_of_mem h, rfl⟩
theorem notin_keys {w : World}  {A : Around} {E : Value → Shared → Prop} {s : Shared} {h₀ : Heap} {L d : Addr} {news : Led} {o : Obj} {ks : List Int} {y : Int} {t : Tok} {Q : Value → Shared → Prop}
    (N : News h₀ L s.heap news) (hp : (d, o) ∈ news) (hd : Keys w o ks) (lo : (d == sysModules) = false) (h : Q (Value.bool (!decide (y ∈ ks))) { s with toks := s.toks + 1 }) :
    wpAny (model PySem.Challenge.rw_og0257_01.row.prog w) A (compareOp .NotIn (.int y t) (.ref d)) Q E s :=
  wpAny_notIn_of (knd := intKind PySem.Challenge.rw_og0257_01.row.prog w) (intKind_is _ _ _ _) lo (kda_dict N hp hd).mapOf (by rw [keys_at]; exact h)
def Mg (rows cols top left bottom right : Int) : Prop :=
  2 ≤ rows ∧ rows < 100 ∧ 3 ≤ cols ∧ cols < 100 ∧ 0 ≤ top ∧ top < bottom ∧ bottom < rows ∧ 0 ≤ left ∧ left < right ∧ right < cols
def Bd (rows cols top left bottom right row col : Int) (org : Bool) : Prop :=
  0 ≤ row ∧ row < rows ∧ 0 ≤ col ∧ col < cols ∧ (org = true → top ≤ row ∧ row ≤ bottom ∧ left ≤ col ∧ col ≤ right)
theorem mg_el {rows cols top left bottom right : Int} (h : Mg rows cols top left bottom right) {G : Prop} (k : 2 ≤ rows → rows < 100 → 3 ≤ cols → cols < 100 → 0 ≤ top → top < bottom → bottom < rows → 0 ≤ left → left < right → right < cols → G) : G :=
  k h.1 h.2.1 h.2.2.1 h.2.2.2.1 h.2.2.2.2.1 h.2.2.2.2.2.1 h.2.2.2.2.2.2.1 h.2.2.2.2.2.2.2.1 h.2.2.2.2.2.2.2.2.1 h.2.2.2.2.2.2.2.2.2
theorem bd_el {rows cols top left bottom right row col : Int} {org : Bool} (h : Bd rows cols top left bottom right row col org) {G : Prop} (k : 0 ≤ row → row < rows → 0 ≤ col → col < cols → (org = true → top ≤ row ∧ row ≤ bottom ∧ left ≤ col ∧ col ≤ right) → G) : G :=
  k h.1 h.2.1 h.2.2.1 h.2.2.2.1 h.2.2.2.2
theorem bd_ret {rows cols top left bottom right row col : Int} {org : Bool} (m : Mg rows cols top left bottom right) (h : Bd rows cols top left bottom right row col org) :
    Bd rows cols top left bottom right row (fst0 left col) org := by
  obtain ⟨g1, g2, g3, g4, g5, g6, g7, g8, g9, g10⟩ := m
  obtain ⟨b1, b2, b3, b4, b5⟩ := h
  unfold fst0
  refine ⟨b1, b2, ?_, ?_, fun o => ?_⟩
  · split <;> omega
  · split <;> omega
  · have := b5 o; split <;> omega
theorem bd_step {rows cols top left bottom right row col x : Int} {org : Bool} (m : Mg rows cols top left bottom right) (h : Bd rows cols top left bottom right row col org) (e : x = max (fst0 left col) (col - 1)) :
    Bd rows cols top left bottom right row x org := by
  obtain ⟨g1, g2, g3, g4, g5, g6, g7, g8, g9, g10⟩ := m
  obtain ⟨b1, b2, b3, b4, b5⟩ := h
  subst e
  unfold fst0
  refine ⟨b1, b2, ?_, ?_, fun o => ?_⟩
  · split <;> omega
  · split <;> omega
  · have := b5 o; split <;> omega
theorem bd_home {rows cols top left bottom right : Int} {org : Bool} (m : Mg rows cols top left bottom right) :
    Bd rows cols top left bottom right (if org then top else 0) (if org then left else 0) org := by
  obtain ⟨g1, g2, g3, g4, g5, g6, g7, g8, g9, g10⟩ := m
  cases org
  · exact ⟨by simp, by simp; omega, by simp, by simp; omega, fun o => by cases o⟩
  · exact ⟨by simp; omega, by simp; omega, by simp; omega, by simp; omega, fun _ => by simp; omega⟩
end
section
def IfAny (s : Shared) (v : Value) (s' : Shared) : Prop := ∃ x t tk, v = .int x t ∧ s' = { s with toks := tk }
theorem IfAny.mk {y : Int} {s : Shared} {t : Tok} {tk : Nat} : IfAny s (.int y t) { s with toks := tk } := ⟨y, t, tk, rfl, rfl⟩
theorem if_any {M : Model} {A : Around} {E : Value → Shared → Prop} {s : Shared} {env : Env} {test body orelse : Expr} {pos : Pos} {Q : Value → Shared → Prop}
    (h : wpAny M A (isTrue test env (eval test env)) (fun b s₁ => if b then wpAny M A (eval body env) (IfAny s) E s₁ else wpAny M A (eval orelse env) (IfAny s) E s₁) E s)
    (k : ∀ x t tk, Q (.int x t) { s with toks := tk }) : wpAny M A (eval (.IfExp test body orelse pos) env) Q E s :=
  wpAny_IfExp (wpAny_mono h (fun b s₁ hb => by
    cases b
    · exact wpAny_mono hb (fun v s' hv => by obtain ⟨x, t, tk, rfl, rfl⟩ := hv; exact k x t tk) fun _ _ e => e
    · exact wpAny_mono hb (fun v s' hv => by obtain ⟨x, t, tk, rfl, rfl⟩ := hv; exact k x t tk) fun _ _ e => e) fun _ _ e => e)
local macro_rules | `(tactic| walk_at "IfAny") => `(tactic| exact IfAny.mk)
local macro_rules | `(tactic| walk_at "eval IfExp") => `(tactic| (k_here; k_dflt ((refine if_any ?_ ?_); rotate_left; intro xU tU tkU; (try dsimp only); rotate_left)))
set_option maxRecDepth 100000 in
set_option maxHeartbeats 8000000 in
theorem draw_spec {w : World} {d lc : Addr} {oD : Obj} {ys : List Value} {ns : List Int} {a st b : Int} {ta ts tb : Tok} (hne : lc ≠ d)
    (hD : oD.IsDictOf (PySem.strKind PySem.Challenge.rw_og0257_01.row.prog w) [((Str.ofString "cells"), .ref lc), ((Str.ofString "at"), .int a ta), ((Str.ofString "stir"), .int st ts)]) (hI : IntsAre ys ns) (hlen2 : ns.length ≤ 48)
    (ha0 : 0 ≤ a) (ha1 : a < 1000000) (hs0 : 0 ≤ st) (hs1 : st < 8191) (hb0 : 0 < b) (hb1 : b < 1000000) :
    Spec PySem.Challenge.rw_og0257_01.row.prog w (hd.heap_1 w.params) 2 387 [.ref d, .int b tb] [(d, oD), (lc, LCg.lst ys)] (Cps fun G => ∀ (r : Int) (t : Tok) (oD' : Obj) (st' : Int) (ta' : Tok) (ts' : Tok), (0 ≤ r) → (r < b) → (oD'.IsDictOf (PySem.strKind PySem.Challenge.rw_og0257_01.row.prog w) [((Str.ofString "cells"), .ref lc), ((Str.ofString "at"), .int (a + 1) ta'), ((Str.ofString "stir"), .int st' ts')]) → (0 ≤ st') → (st' < 8191) → G (.int r t) [(d, oD'), (lc, LCg.lst ys)]) := by
  k_with_none
  (k_with "e-draw" => ( refine' SpecEnd.introC [(_, _), (_, _)] ?F ?N ?hs rfl rfl (fun _ k => k _ _ _ _ _ _ (Int.fmod_nonneg_of_pos _ (by omega)) (Int.fmod_lt_of_pos _ (by omega)) ?hD (Int.fmod_nonneg_of_pos _ (by omega)) (Int.fmod_lt_of_pos _ (by omega))); (case F => assumption); (case N => assumption); (case hD => assumption); (case hs => walk_at "sp-sub")))
  k_fill
  refine' spec_enter (binds := [(Str.ofString "deck", .ref d), (Str.ofString "below", .int b tb)]) ?ko ?kcd ?kb ?kl ?k1 ?_ ?kc ?c1 ?c2 ?c3
  (case ko => k_dflt k_is)
  (case kcd => k_dflt k_is)
  (case c1 => rfl)
  (case c2 => rfl)
  (case c3 => rfl)
  (case kb => (intro s hX; first | exact BindsTo.of_eq rfl | (k_dflt (refine' binds_K hX ?b1 ?b2 ?b3 ?b4 ?b5; (case b1 => exact rfl); (case b2 => k_is); (case b3 => exact rfl); (case b4 => exact rfl); (case b5 => exact rfl)))))
  (case kl => exact locs rfl)
  (case k1 => decide)
  (case kc => decide)
  intro p loose mean mg mb dp un gd outer A₀ base g s L' h₁ hd hu B F N X T
  (try dsimp only)
  (try k_fold)
  k_steps
  all_goals (dsimp only; k_unfold; dsimp only)
  all_goals walk_at "e-draw"
end
section
set_option maxRecDepth 100000 in
set_option maxHeartbeats 2000000 in
theorem go_spec {w : World} {cu dcu : Addr} {c : CK} {r0 c0 w0 og vr vc : Value} (hne : cu ≠ dcu) :
    Spec PySem.Challenge.rw_og0257_01.row.prog w (hd.heap_1 w.params) 2 57 [.ref cu, vr, vc] [(cu, instObj 74 dcu), (dcu, curD c r0 c0 w0 og)] (Cps fun G => G .none [(cu, instObj 74 dcu), (dcu, curD c vr vc (.bool false) og)]) := by
  k_with_none
  (k_with "e-go" => ( refine' SpecEnd.introC [(_, _), (_, _)] ?F ?N ?hs rfl rfl (fun _ k => k); (case F => assumption); (case N => assumption); (case hs => walk_at "sp-sub")))
  k_fill
  refine' spec_enter (binds := [(Str.ofString "self", .ref cu), (Str.ofString "row", vr), (Str.ofString "column", vc)]) ?ko ?kcd ?kb ?kl ?k1 ?_ ?kc ?c1 ?c2 ?c3
  (case ko => k_dflt k_is)
  (case kcd => k_dflt k_is)
  (case c1 => rfl)
  (case c2 => rfl)
  (case c3 => rfl)
  (case kb => (intro s hX; first | exact BindsTo.of_eq rfl | (k_dflt (refine' binds_K hX ?b1 ?b2 ?b3 ?b4 ?b5; (case b1 => exact rfl); (case b2 => k_is); (case b3 => exact rfl); (case b4 => exact rfl); (case b5 => exact rfl)))))
  (case kl => exact locs rfl)
  (case k1 => decide)
  (case kc => decide)
  intro p loose mean mg mb dp un gd outer A₀ base g s L' h₁ hd hu B F N X T
  (try dsimp only)
  (try k_fold)
  k_steps
  all_goals (try dsimp only); (try k_unfold); (try dsimp only)
  all_goals walk_at "e-go"
set_option maxRecDepth 100000 in
set_option maxHeartbeats 2000000 in
theorem clamp_spec {w : World} {x l m : Int} {t1 t2 t3 : Tok}  :
    Spec PySem.Challenge.rw_og0257_01.row.prog w (hd.heap_1 w.params) 2 29 [.int x t1, .int l t2, .int m t3] [] (Cps fun G => ∀ (t : Tok), G (.int (max l (min x m)) t) []) := by
  k_with_none
  (k_with "e-clamp" => ( refine' SpecEnd.introC [] ?F ?N sub_nil (int_eqc ?e) rfl (fun _ k => k _); (case F => assumption); (case N => assumption); (case e => ((repeat' split) <;> omega))))
  k_fill
  refine' spec_enter (binds := [(Str.ofString "value", .int x t1), (Str.ofString "least", .int l t2), (Str.ofString "most", .int m t3)]) ?ko ?kcd ?kb ?kl ?k1 ?_ ?kc ?c1 ?c2 ?c3
  (case ko => k_dflt k_is)
  (case kcd => k_dflt k_is)
  (case c1 => rfl)
  (case c2 => rfl)
  (case c3 => rfl)
  (case kb => (intro s hX; first | exact BindsTo.of_eq rfl | (k_dflt (refine' binds_K hX ?b1 ?b2 ?b3 ?b4 ?b5; (case b1 => exact rfl); (case b2 => k_is); (case b3 => exact rfl); (case b4 => exact rfl); (case b5 => exact rfl)))))
  (case kl => exact locs rfl)
  (case k1 => decide)
  (case kc => decide)
  intro p loose mean mg mb dp un gd outer A₀ base g s L' h₁ hd hu B F N X T
  (try dsimp only)
  (try k_fold)
  k_steps
  all_goals (try dsimp only); (try k_unfold); (try dsimp only)
  all_goals walk_at "e-clamp"
set_option maxRecDepth 100000 in
set_option maxHeartbeats 2000000 in
theorem first_row_spec {w : World} {ma dma : Addr} {c : MK} {rows cols top bottom left right x : Int} {t1 t2 t3 t4 t5 t6 t7 : Tok} (hne : ma ≠ dma) :
    Spec PySem.Challenge.rw_og0257_01.row.prog w (hd.heap_1 w.params) 2 176 [.ref ma, .int x t7] [(ma, instObj 207 dma), (dma, marD c (.int rows t1) (.int cols t2) (.int top t3) (.int bottom t4) (.int left t5) (.int right t6))]
      (Cps fun G => ∀ (t : Tok), G (.int (fst0 top x) t) [(ma, instObj 207 dma), (dma, marD c (.int rows t1) (.int cols t2) (.int top t3) (.int bottom t4) (.int left t5) (.int right t6))]) := by
  k_with_none
  (k_with "e-int2" => ( refine' SpecEnd.introC [(_, _), (_, _)] ?F ?N ?hs (int_eqc ?e) rfl (fun _ k => k _); (case F => assumption); (case N => assumption); (case hs => walk_at "sp-sub"); (case e => ((try simp only [decide_eq_true_eq, decide_eq_false_iff_not] at *); (first | unfold fst0 | unfold lst0); (repeat' split) <;> omega))))
  k_fill
  refine' spec_enter (binds := [(Str.ofString "self", .ref ma), (Str.ofString "row", .int x t7)]) ?ko ?kcd ?kb ?kl ?k1 ?_ ?kc ?c1 ?c2 ?c3
  (case ko => k_dflt k_is)
  (case kcd => k_dflt k_is)
  (case c1 => rfl)
  (case c2 => rfl)
  (case c3 => rfl)
  (case kb => (intro s hX; first | exact BindsTo.of_eq rfl | (k_dflt (refine' binds_K hX ?b1 ?b2 ?b3 ?b4 ?b5; (case b1 => exact rfl); (case b2 => k_is); (case b3 => exact rfl); (case b4 => exact rfl); (case b5 => exact rfl)))))
  (case kl => exact locs rfl)
  (case k1 => decide)
  (case kc => decide)
  intro p loose mean mg mb dp un gd outer A₀ base g s L' h₁ hd hu B F N X T
  (try dsimp only)
  (try k_fold)
  k_steps
  all_goals (try dsimp only); (try k_unfold); (try dsimp only)
  all_goals walk_at "e-int2"
set_option maxRecDepth 100000 in
set_option maxHeartbeats 2000000 in
theorem last_row_spec {w : World} {ma dma : Addr} {c : MK} {rows cols top bottom left right x : Int} {t1 t2 t3 t4 t5 t6 t7 : Tok} (hne : ma ≠ dma) :
    Spec PySem.Challenge.rw_og0257_01.row.prog w (hd.heap_1 w.params) 2 183 [.ref ma, .int x t7] [(ma, instObj 207 dma), (dma, marD c (.int rows t1) (.int cols t2) (.int top t3) (.int bottom t4) (.int left t5) (.int right t6))]
      (Cps fun G => ∀ (t : Tok), G (.int (lst0 bottom rows x) t) [(ma, instObj 207 dma), (dma, marD c (.int rows t1) (.int cols t2) (.int top t3) (.int bottom t4) (.int left t5) (.int right t6))]) := by
  k_with_none
  (k_with "e-int2" => ( refine' SpecEnd.introC [(_, _), (_, _)] ?F ?N ?hs (int_eqc ?e) rfl (fun _ k => k _); (case F => assumption); (case N => assumption); (case hs => walk_at "sp-sub"); (case e => ((try simp only [decide_eq_true_eq, decide_eq_false_iff_not] at *); (first | unfold fst0 | unfold lst0); (repeat' split) <;> omega))))
  k_fill
  refine' spec_enter (binds := [(Str.ofString "self", .ref ma), (Str.ofString "row", .int x t7)]) ?ko ?kcd ?kb ?kl ?k1 ?_ ?kc ?c1 ?c2 ?c3
  (case ko => k_dflt k_is)
  (case kcd => k_dflt k_is)
  (case c1 => rfl)
  (case c2 => rfl)
  (case c3 => rfl)
  (case kb => (intro s hX; first | exact BindsTo.of_eq rfl | (k_dflt (refine' binds_K hX ?b1 ?b2 ?b3 ?b4 ?b5; (case b1 => exact rfl); (case b2 => k_is); (case b3 => exact rfl); (case b4 => exact rfl); (case b5 => exact rfl)))))
  (case kl => exact locs rfl)
  (case k1 => decide)
  (case kc => decide)
  intro p loose mean mg mb dp un gd outer A₀ base g s L' h₁ hd hu B F N X T
  (try dsimp only)
  (try k_fold)
  k_steps
  all_goals (try dsimp only); (try k_unfold); (try dsimp only)
  all_goals walk_at "e-int2"
set_option maxRecDepth 100000 in
set_option maxHeartbeats 2000000 in
theorem first_column_spec {w : World} {ma dma : Addr} {c : MK} {rows cols top bottom left right x : Int} {t1 t2 t3 t4 t5 t6 t7 : Tok} (hne : ma ≠ dma) :
    Spec PySem.Challenge.rw_og0257_01.row.prog w (hd.heap_1 w.params) 2 190 [.ref ma, .int x t7] [(ma, instObj 207 dma), (dma, marD c (.int rows t1) (.int cols t2) (.int top t3) (.int bottom t4) (.int left t5) (.int right t6))]
      (Cps fun G => ∀ (t : Tok), G (.int (fst0 left x) t) [(ma, instObj 207 dma), (dma, marD c (.int rows t1) (.int cols t2) (.int top t3) (.int bottom t4) (.int left t5) (.int right t6))]) := by
  k_with_none
  (k_with "e-int2" => ( refine' SpecEnd.introC [(_, _), (_, _)] ?F ?N ?hs (int_eqc ?e) rfl (fun _ k => k _); (case F => assumption); (case N => assumption); (case hs => walk_at "sp-sub"); (case e => ((try simp only [decide_eq_true_eq, decide_eq_false_iff_not] at *); (first | unfold fst0 | unfold lst0); (repeat' split) <;> omega))))
  k_fill
  refine' spec_enter (binds := [(Str.ofString "self", .ref ma), (Str.ofString "column", .int x t7)]) ?ko ?kcd ?kb ?kl ?k1 ?_ ?kc ?c1 ?c2 ?c3
  (case ko => k_dflt k_is)
  (case kcd => k_dflt k_is)
  (case c1 => rfl)
  (case c2 => rfl)
  (case c3 => rfl)
  (case kb => (intro s hX; first | exact BindsTo.of_eq rfl | (k_dflt (refine' binds_K hX ?b1 ?b2 ?b3 ?b4 ?b5; (case b1 => exact rfl); (case b2 => k_is); (case b3 => exact rfl); (case b4 => exact rfl); (case b5 => exact rfl)))))
  (case kl => exact locs rfl)
  (case k1 => decide)
  (case kc => decide)
  intro p loose mean mg mb dp un gd outer A₀ base g s L' h₁ hd hu B F N X T
  (try dsimp only)
  (try k_fold)
  k_steps
  all_goals (try dsimp only); (try k_unfold); (try dsimp only)
  all_goals walk_at "e-int2"
set_option maxRecDepth 100000 in
set_option maxHeartbeats 2000000 in
theorem last_column_spec {w : World} {ma dma : Addr} {c : MK} {rows cols top bottom left right x : Int} {t1 t2 t3 t4 t5 t6 t7 : Tok} (hne : ma ≠ dma) :
    Spec PySem.Challenge.rw_og0257_01.row.prog w (hd.heap_1 w.params) 2 197 [.ref ma, .int x t7] [(ma, instObj 207 dma), (dma, marD c (.int rows t1) (.int cols t2) (.int top t3) (.int bottom t4) (.int left t5) (.int right t6))]
      (Cps fun G => ∀ (t : Tok), G (.int (lst0 right cols x) t) [(ma, instObj 207 dma), (dma, marD c (.int rows t1) (.int cols t2) (.int top t3) (.int bottom t4) (.int left t5) (.int right t6))]) := by
  k_with_none
  (k_with "e-int2" => ( refine' SpecEnd.introC [(_, _), (_, _)] ?F ?N ?hs (int_eqc ?e) rfl (fun _ k => k _); (case F => assumption); (case N => assumption); (case hs => walk_at "sp-sub"); (case e => ((try simp only [decide_eq_true_eq, decide_eq_false_iff_not] at *); (first | unfold fst0 | unfold lst0); (repeat' split) <;> omega))))
  k_fill
  refine' spec_enter (binds := [(Str.ofString "self", .ref ma), (Str.ofString "column", .int x t7)]) ?ko ?kcd ?kb ?kl ?k1 ?_ ?kc ?c1 ?c2 ?c3
  (case ko => k_dflt k_is)
  (case kcd => k_dflt k_is)
  (case c1 => rfl)
  (case c2 => rfl)
  (case c3 => rfl)
  (case kb => (intro s hX; first | exact BindsTo.of_eq rfl | (k_dflt (refine' binds_K hX ?b1 ?b2 ?b3 ?b4 ?b5; (case b1 => exact rfl); (case b2 => k_is); (case b3 => exact rfl); (case b4 => exact rfl); (case b5 => exact rfl)))))
  (case kl => exact locs rfl)
  (case k1 => decide)
  (case kc => decide)
  intro p loose mean mg mb dp un gd outer A₀ base g s L' h₁ hd hu B F N X T
  (try dsimp only)
  (try k_fold)
  k_steps
  all_goals (try dsimp only); (try k_unfold); (try dsimp only)
  all_goals walk_at "e-int2"
end
section
local macro_rules | `(tactic| walk_at "no key 0") => `(tactic| skip)
set_option maxRecDepth 100000 in
set_option maxHeartbeats 2000000 in
theorem row_of_spec {w : World} {cu dcu : Addr} {cc : CK} {r x : Value} {wt : Value} {og : Bool} {ma dma : Addr} {mc : MK} {rows cols top bottom left right : Int} {m1 m2 m3 m4 m5 m6 : Tok} {y : Int} {ty : Tok} (hn : Dist [cu, dcu, ma, dma]) :
    Spec PySem.Challenge.rw_og0257_01.row.prog w (hd.heap_1 w.params) 4 232 [.ref cu, .ref ma, .int y ty] [(cu, instObj 74 dcu), (dcu, curD cc r x wt (.bool og)), (ma, instObj 207 dma), (dma, marD mc (.int rows m1) (.int cols m2) (.int top m3) (.int bottom m4) (.int left m5) (.int right m6))]
      (Cps fun G => ∀ (t : Tok), G (.int (if og then max top (min (top + y) bottom) else max 0 (min y (rows - 1))) t) [(cu, instObj 74 dcu), (dcu, curD cc r x wt (.bool og)), (ma, instObj 207 dma), (dma, marD mc (.int rows m1) (.int cols m2) (.int top m3) (.int bottom m4) (.int left m5) (.int right m6))]) := by
  k_with_none
  (k_with "call ref" => (k_here; k_dflt ( (with_reducible show wpAny _ _ (call (Value.ref 29) _ _) _ _ _); refine' spec_callC (as := []) (clamp_spec  ) ?B ?F ?X ?T ?N ?hA ?hh ?hf ?hk sub_nil ?has ?hrest ?hd ?hu ?_; walk_at "sp-a"; walk_at "sp-z"; intro t' h' tk' hO' F' N'; walk_at "sp-n")))
  (k_with "call ref" => (k_here; k_dflt ( (with_reducible show wpAny _ _ (call (Value.ref 57) _ _) _ _ _); refine' spec_callC (as := [_, _]) (go_spec  ?hne) ?B ?F ?X ?T ?N ?hA ?hh ?hf ?hk (sub_cons ?m1 (sub_cons ?m2 sub_nil)) ?has ?hrest ?hd ?hu ?_; walk_at "sp-a"; walk_at "sp-m1"; walk_at "sp-m2"; (case hne => walk_at "sp-ne"); walk_at "sp-z"; intro  h' tk' hO' F' N'; walk_at "sp-n")))
  (k_with "call ref" => (k_here; k_dflt ( (with_reducible show wpAny _ _ (call (Value.ref 176) _ _) _ _ _); refine' spec_callC (as := [_, _]) (first_row_spec  ?hne) ?B ?F ?X ?T ?N ?hA ?hh ?hf ?hk (sub_cons ?m1 (sub_cons ?m2 sub_nil)) ?has ?hrest ?hd ?hu ?_; walk_at "sp-a"; walk_at "sp-m1"; walk_at "sp-m2"; (case hne => walk_at "sp-ne"); walk_at "sp-z"; intro t' h' tk' hO' F' N'; walk_at "sp-n")))
  (k_with "call ref" => (k_here; k_dflt ( (with_reducible show wpAny _ _ (call (Value.ref 183) _ _) _ _ _); refine' spec_callC (as := [_, _]) (last_row_spec  ?hne) ?B ?F ?X ?T ?N ?hA ?hh ?hf ?hk (sub_cons ?m1 (sub_cons ?m2 sub_nil)) ?has ?hrest ?hd ?hu ?_; walk_at "sp-a"; walk_at "sp-m1"; walk_at "sp-m2"; (case hne => walk_at "sp-ne"); walk_at "sp-z"; intro t' h' tk' hO' F' N'; walk_at "sp-n")))
  (k_with "call ref" => (k_here; k_dflt ( (with_reducible show wpAny _ _ (call (Value.ref 190) _ _) _ _ _); refine' spec_callC (as := [_, _]) (first_column_spec  ?hne) ?B ?F ?X ?T ?N ?hA ?hh ?hf ?hk (sub_cons ?m1 (sub_cons ?m2 sub_nil)) ?has ?hrest ?hd ?hu ?_; walk_at "sp-a"; walk_at "sp-m1"; walk_at "sp-m2"; (case hne => walk_at "sp-ne"); walk_at "sp-z"; intro t' h' tk' hO' F' N'; walk_at "sp-n")))
  (k_with "call ref" => (k_here; k_dflt ( (with_reducible show wpAny _ _ (call (Value.ref 197) _ _) _ _ _); refine' spec_callC (as := [_, _]) (last_column_spec  ?hne) ?B ?F ?X ?T ?N ?hA ?hh ?hf ?hk (sub_cons ?m1 (sub_cons ?m2 sub_nil)) ?has ?hrest ?hd ?hu ?_; walk_at "sp-a"; walk_at "sp-m1"; walk_at "sp-m2"; (case hne => walk_at "sp-ne"); walk_at "sp-z"; intro t' h' tk' hO' F' N'; walk_at "sp-n")))
  (k_with "e-int4" => (refine' SpecEnd.introC [(_, _), (_, _), (_, _), (_, _)] ?F ?N ?hs (int_eqc ?e) rfl (fun _ k => k _); walk_at "sp-e"; (case e => first | rfl | (simp_all; done) | (simp_all; omega))))
  have n1 := And.left hn
  have n2 := And.left (And.right hn)
  have n3 := And.left (And.right (And.right hn))
  clear hn
  k_fill
  refine' spec_enter (binds := [(Str.ofString "cursor", .ref cu), (Str.ofString "margins", .ref ma), (Str.ofString "row", .int y ty)]) ?ko ?kcd ?kb ?kl ?k1 ?_ ?kc ?c1 ?c2 ?c3
  (case ko => k_dflt k_is)
  (case kcd => k_dflt k_is)
  (case c1 => rfl)
  (case c2 => rfl)
  (case c3 => rfl)
  (case kb => (intro s hX; first | exact BindsTo.of_eq rfl | (k_dflt (refine' binds_K hX ?b1 ?b2 ?b3 ?b4 ?b5; (case b1 => exact rfl); (case b2 => k_is); (case b3 => exact rfl); (case b4 => exact rfl); (case b5 => exact rfl)))))
  (case kl => exact locs rfl)
  (case k1 => decide)
  (case kc => decide)
  intro p loose mean mg mb dp un gd outer A₀ base g s L' h₁ hd hu B F N X T
  (try dsimp only)
  (try k_fold)
  k_steps
  all_goals (try dsimp only); (try k_unfold); (try dsimp only)
  all_goals walk_at "e-int4"
set_option maxRecDepth 100000 in
set_option maxHeartbeats 2000000 in
theorem col_of_spec {w : World} {cu dcu : Addr} {cc : CK} {r x : Value} {wt : Value} {og : Bool} {ma dma : Addr} {mc : MK} {rows cols top bottom left right : Int} {m1 m2 m3 m4 m5 m6 : Tok} {y : Int} {ty : Tok} (hn : Dist [cu, dcu, ma, dma]) :
    Spec PySem.Challenge.rw_og0257_01.row.prog w (hd.heap_1 w.params) 4 239 [.ref cu, .ref ma, .int y ty] [(cu, instObj 74 dcu), (dcu, curD cc r x wt (.bool og)), (ma, instObj 207 dma), (dma, marD mc (.int rows m1) (.int cols m2) (.int top m3) (.int bottom m4) (.int left m5) (.int right m6))]
      (Cps fun G => ∀ (t : Tok), G (.int (if og then max left (min (left + y) right) else max 0 (min y (cols - 1))) t) [(cu, instObj 74 dcu), (dcu, curD cc r x wt (.bool og)), (ma, instObj 207 dma), (dma, marD mc (.int rows m1) (.int cols m2) (.int top m3) (.int bottom m4) (.int left m5) (.int right m6))]) := by
  k_with_none
  (k_with "call ref" => (k_here; k_dflt ( (with_reducible show wpAny _ _ (call (Value.ref 29) _ _) _ _ _); refine' spec_callC (as := []) (clamp_spec  ) ?B ?F ?X ?T ?N ?hA ?hh ?hf ?hk sub_nil ?has ?hrest ?hd ?hu ?_; walk_at "sp-a"; walk_at "sp-z"; intro t' h' tk' hO' F' N'; walk_at "sp-n")))
  (k_with "call ref" => (k_here; k_dflt ( (with_reducible show wpAny _ _ (call (Value.ref 57) _ _) _ _ _); refine' spec_callC (as := [_, _]) (go_spec  ?hne) ?B ?F ?X ?T ?N ?hA ?hh ?hf ?hk (sub_cons ?m1 (sub_cons ?m2 sub_nil)) ?has ?hrest ?hd ?hu ?_; walk_at "sp-a"; walk_at "sp-m1"; walk_at "sp-m2"; (case hne => walk_at "sp-ne"); walk_at "sp-z"; intro  h' tk' hO' F' N'; walk_at "sp-n")))
  (k_with "call ref" => (k_here; k_dflt ( (with_reducible show wpAny _ _ (call (Value.ref 176) _ _) _ _ _); refine' spec_callC (as := [_, _]) (first_row_spec  ?hne) ?B ?F ?X ?T ?N ?hA ?hh ?hf ?hk (sub_cons ?m1 (sub_cons ?m2 sub_nil)) ?has ?hrest ?hd ?hu ?_; walk_at "sp-a"; walk_at "sp-m1"; walk_at "sp-m2"; (case hne => walk_at "sp-ne"); walk_at "sp-z"; intro t' h' tk' hO' F' N'; walk_at "sp-n")))
  (k_with "call ref" => (k_here; k_dflt ( (with_reducible show wpAny _ _ (call (Value.ref 183) _ _) _ _ _); refine' spec_callC (as := [_, _]) (last_row_spec  ?hne) ?B ?F ?X ?T ?N ?hA ?hh ?hf ?hk (sub_cons ?m1 (sub_cons ?m2 sub_nil)) ?has ?hrest ?hd ?hu ?_; walk_at "sp-a"; walk_at "sp-m1"; walk_at "sp-m2"; (case hne => walk_at "sp-ne"); walk_at "sp-z"; intro t' h' tk' hO' F' N'; walk_at "sp-n")))
  (k_with "call ref" => (k_here; k_dflt ( (with_reducible show wpAny _ _ (call (Value.ref 190) _ _) _ _ _); refine' spec_callC (as := [_, _]) (first_column_spec  ?hne) ?B ?F ?X ?T ?N ?hA ?hh ?hf ?hk (sub_cons ?m1 (sub_cons ?m2 sub_nil)) ?has ?hrest ?hd ?hu ?_; walk_at "sp-a"; walk_at "sp-m1"; walk_at "sp-m2"; (case hne => walk_at "sp-ne"); walk_at "sp-z"; intro t' h' tk' hO' F' N'; walk_at "sp-n")))
  (k_with "call ref" => (k_here; k_dflt ( (with_reducible show wpAny _ _ (call (Value.ref 197) _ _) _ _ _); refine' spec_callC (as := [_, _]) (last_column_spec  ?hne) ?B ?F ?X ?T ?N ?hA ?hh ?hf ?hk (sub_cons ?m1 (sub_cons ?m2 sub_nil)) ?has ?hrest ?hd ?hu ?_; walk_at "sp-a"; walk_at "sp-m1"; walk_at "sp-m2"; (case hne => walk_at "sp-ne"); walk_at "sp-z"; intro t' h' tk' hO' F' N'; walk_at "sp-n")))
  (k_with "e-int4" => (refine' SpecEnd.introC [(_, _), (_, _), (_, _), (_, _)] ?F ?N ?hs (int_eqc ?e) rfl (fun _ k => k _); walk_at "sp-e"; (case e => first | rfl | (simp_all; done) | (simp_all; omega))))
  have n1 := And.left hn
  have n2 := And.left (And.right hn)
  have n3 := And.left (And.right (And.right hn))
  clear hn
  k_fill
  refine' spec_enter (binds := [(Str.ofString "cursor", .ref cu), (Str.ofString "margins", .ref ma), (Str.ofString "column", .int y ty)]) ?ko ?kcd ?kb ?kl ?k1 ?_ ?kc ?c1 ?c2 ?c3
  (case ko => k_dflt k_is)
  (case kcd => k_dflt k_is)
  (case c1 => rfl)
  (case c2 => rfl)
  (case c3 => rfl)
  (case kb => (intro s hX; first | exact BindsTo.of_eq rfl | (k_dflt (refine' binds_K hX ?b1 ?b2 ?b3 ?b4 ?b5; (case b1 => exact rfl); (case b2 => k_is); (case b3 => exact rfl); (case b4 => exact rfl); (case b5 => exact rfl)))))
  (case kl => exact locs rfl)
  (case k1 => decide)
  (case kc => decide)
  intro p loose mean mg mb dp un gd outer A₀ base g s L' h₁ hd hu B F N X T
  (try dsimp only)
  (try k_fold)
  k_steps
  all_goals (try dsimp only); (try k_unfold); (try dsimp only)
  all_goals walk_at "e-int4"
end
section
theorem fst0_le {top r : Int} (h : 0 ≤ r) : fst0 top r ≤ r := by unfold fst0; split <;> assumption
theorem le_lst0 {hi n r : Int} (h : r < n) : r ≤ lst0 hi n r := by
  unfold lst0; split
  · assumption
  · exact Int.le_sub_one_of_lt h
theorem step_row {top bottom rows r : Int} (h1 : 0 ≤ r) (h2 : r < rows) : max (fst0 top r) (min (r + 0) (lst0 bottom rows r)) = r := by
  rw [Int.add_zero, Int.min_eq_left (le_lst0 h2), Int.max_eq_right (fst0_le h1)]
theorem step_col {left right cols x : Int} (h2 : x < cols) : max (fst0 left x) (min (x + -1) (lst0 right cols x)) = max (fst0 left x) (x - 1) := by
  rw [Int.min_eq_left (Int.le_trans (Int.add_le_of_le_sub_left (by omega)) (le_lst0 h2))]; rfl
theorem ret_col {left x : Int} (h : left ≤ x) : left = fst0 left x := by unfold fst0; split <;> omega
set_option maxRecDepth 100000 in
set_option maxHeartbeats 2000000 in
theorem homed_spec {w : World} {cu dcu : Addr} {cc : CK} {r x : Value} {wt : Value} {og : Bool} {ma dma : Addr} {mc : MK} {rows cols top bottom left right : Int} {m1 m2 m3 m4 m5 m6 : Tok} (hn : Dist [cu, dcu, ma, dma])
    (hr : 0 < rows) (hc : 0 < cols) (h1 : top ≤ bottom) (h2 : left ≤ right) :
    Spec PySem.Challenge.rw_og0257_01.row.prog w (hd.heap_1 w.params) 7 253 [.ref cu, .ref ma] [(cu, instObj 74 dcu), (dcu, curD cc r x wt (.bool og)), (ma, instObj 207 dma), (dma, marD mc (.int rows m1) (.int cols m2) (.int top m3) (.int bottom m4) (.int left m5) (.int right m6))]
      (Cps fun G => ∀ (t1 : Tok) (t2 : Tok), G .none [(cu, instObj 74 dcu), (dcu, curD cc (.int (if og then top else 0) t1) (.int (if og then left else 0) t2) (.bool false) (.bool og)), (ma, instObj 207 dma), (dma, marD mc (.int rows m1) (.int cols m2) (.int top m3) (.int bottom m4) (.int left m5) (.int right m6))]) := by
  k_with_none
  (k_with "call ref" => (k_here; k_dflt ( (with_reducible show wpAny _ _ (call (Value.ref 29) _ _) _ _ _); refine' spec_callC (as := []) (clamp_spec  ) ?B ?F ?X ?T ?N ?hA ?hh ?hf ?hk sub_nil ?has ?hrest ?hd ?hu ?_; walk_at "sp-a"; walk_at "sp-z"; intro t' h' tk' hO' F' N'; walk_at "sp-n")))
  (k_with "call ref" => (k_here; k_dflt ( (with_reducible show wpAny _ _ (call (Value.ref 57) _ _) _ _ _); refine' spec_callC (as := [_, _]) (go_spec  ?hne) ?B ?F ?X ?T ?N ?hA ?hh ?hf ?hk (sub_cons ?m1 (sub_cons ?m2 sub_nil)) ?has ?hrest ?hd ?hu ?_; walk_at "sp-a"; walk_at "sp-m1"; walk_at "sp-m2"; (case hne => walk_at "sp-ne"); walk_at "sp-z"; intro  h' tk' hO' F' N'; walk_at "sp-n")))
  (k_with "call ref" => (k_here; k_dflt ( (with_reducible show wpAny _ _ (call (Value.ref 176) _ _) _ _ _); refine' spec_callC (as := [_, _]) (first_row_spec  ?hne) ?B ?F ?X ?T ?N ?hA ?hh ?hf ?hk (sub_cons ?m1 (sub_cons ?m2 sub_nil)) ?has ?hrest ?hd ?hu ?_; walk_at "sp-a"; walk_at "sp-m1"; walk_at "sp-m2"; (case hne => walk_at "sp-ne"); walk_at "sp-z"; intro t' h' tk' hO' F' N'; walk_at "sp-n")))
  (k_with "call ref" => (k_here; k_dflt ( (with_reducible show wpAny _ _ (call (Value.ref 183) _ _) _ _ _); refine' spec_callC (as := [_, _]) (last_row_spec  ?hne) ?B ?F ?X ?T ?N ?hA ?hh ?hf ?hk (sub_cons ?m1 (sub_cons ?m2 sub_nil)) ?has ?hrest ?hd ?hu ?_; walk_at "sp-a"; walk_at "sp-m1"; walk_at "sp-m2"; (case hne => walk_at "sp-ne"); walk_at "sp-z"; intro t' h' tk' hO' F' N'; walk_at "sp-n")))
  (k_with "call ref" => (k_here; k_dflt ( (with_reducible show wpAny _ _ (call (Value.ref 190) _ _) _ _ _); refine' spec_callC (as := [_, _]) (first_column_spec  ?hne) ?B ?F ?X ?T ?N ?hA ?hh ?hf ?hk (sub_cons ?m1 (sub_cons ?m2 sub_nil)) ?has ?hrest ?hd ?hu ?_; walk_at "sp-a"; walk_at "sp-m1"; walk_at "sp-m2"; (case hne => walk_at "sp-ne"); walk_at "sp-z"; intro t' h' tk' hO' F' N'; walk_at "sp-n")))
  (k_with "call ref" => (k_here; k_dflt ( (with_reducible show wpAny _ _ (call (Value.ref 197) _ _) _ _ _); refine' spec_callC (as := [_, _]) (last_column_spec  ?hne) ?B ?F ?X ?T ?N ?hA ?hh ?hf ?hk (sub_cons ?m1 (sub_cons ?m2 sub_nil)) ?has ?hrest ?hd ?hu ?_; walk_at "sp-a"; walk_at "sp-m1"; walk_at "sp-m2"; (case hne => walk_at "sp-ne"); walk_at "sp-z"; intro t' h' tk' hO' F' N'; walk_at "sp-n")))
  (k_with "call ref" => (k_here; k_dflt ( (with_reducible show wpAny _ _ (call (Value.ref 232) _ _) _ _ _); refine' spec_callC (as := [_, _, _, _]) (row_of_spec  ?hn) ?B ?F ?X ?T ?N ?hA ?hh ?hf ?hk (sub_cons ?m1 (sub_cons ?m2 (sub_cons ?m3 (sub_cons ?m4 sub_nil)))) ?has ?hrest ?hd ?hu ?_; walk_at "sp-a"; walk_at "sp-m1"; walk_at "sp-m2"; walk_at "sp-m3"; walk_at "sp-m4"; (case hn => walk_at "sp-dist"); walk_at "sp-z"; intro t' h' tk' hO' F' N'; walk_at "sp-n")))
  (k_with "call ref" => (k_here; k_dflt ( (with_reducible show wpAny _ _ (call (Value.ref 239) _ _) _ _ _); refine' spec_callC (as := [_, _, _, _]) (col_of_spec  ?hn) ?B ?F ?X ?T ?N ?hA ?hh ?hf ?hk (sub_cons ?m1 (sub_cons ?m2 (sub_cons ?m3 (sub_cons ?m4 sub_nil)))) ?has ?hrest ?hd ?hu ?_; walk_at "sp-a"; walk_at "sp-m1"; walk_at "sp-m2"; walk_at "sp-m3"; walk_at "sp-m4"; (case hn => walk_at "sp-dist"); walk_at "sp-z"; intro t' h' tk' hO' F' N'; walk_at "sp-n")))
  (k_with "e-cur" => (refine' SpecEnd.introC ((_, _) :: (_, _) :: [(_, _), (_, _)]) ?F ?N ?hs rfl (cur_eq ?e1 ?e2) (fun _ k => k _ _); walk_at "sp-e"; (case e1 => first | rfl | exact step_row (by assumption) (by assumption) | (simp_all; done) | (simp_all [fst0, lst0]; omega) | ((simp only [fst0, lst0] at *); (repeat' split) <;> omega) | ((repeat' split) <;> omega)); (case e2 => first | rfl | exact step_col (by assumption) | exact ret_col (hx (by assumption)) | exact ret_col (by simp_all) | (simp_all; done) | (simp_all [fst0, lst0]; omega) | ((simp only [fst0, lst0] at *); (repeat' split) <;> omega) | ((repeat' split) <;> omega))))
  have n1 := And.left hn
  have n2 := And.left (And.right hn)
  have n3 := And.left (And.right (And.right hn))
  clear hn
  k_fill
  refine' spec_enter (binds := [(Str.ofString "cursor", .ref cu), (Str.ofString "margins", .ref ma)]) ?ko ?kcd ?kb ?kl ?k1 ?_ ?kc ?c1 ?c2 ?c3
  (case ko => k_dflt k_is)
  (case kcd => k_dflt k_is)
  (case c1 => rfl)
  (case c2 => rfl)
  (case c3 => rfl)
  (case kb => (intro s hX; first | exact BindsTo.of_eq rfl | (k_dflt (refine' binds_K hX ?b1 ?b2 ?b3 ?b4 ?b5; (case b1 => exact rfl); (case b2 => k_is); (case b3 => exact rfl); (case b4 => exact rfl); (case b5 => exact rfl)))))
  (case kl => exact locs rfl)
  (case k1 => decide)
  (case kc => decide)
  intro p loose mean mg mb dp un gd outer A₀ base g s L' h₁ hd hu B F N X T
  (try dsimp only)
  (try k_fold)
  k_steps
  all_goals (try dsimp only); (try k_unfold); (try dsimp only)
  all_goals walk_at "e-cur"
set_option maxRecDepth 100000 in
set_option maxHeartbeats 2000000 in
theorem returned_spec {w : World} {cu dcu : Addr} {cc : CK} {r x : Int} {tr tx : Tok} {wt : Value} {og : Bool} {ma dma : Addr} {mc : MK} {rows cols top bottom left right : Int} {m1 m2 m3 m4 m5 m6 : Tok} (hn : Dist [cu, dcu, ma, dma]) (hx : og = true → left ≤ x) :
    Spec PySem.Challenge.rw_og0257_01.row.prog w (hd.heap_1 w.params) 4 260 [.ref cu, .ref ma] [(cu, instObj 74 dcu), (dcu, curD cc (.int r tr) (.int x tx) wt (.bool og)), (ma, instObj 207 dma), (dma, marD mc (.int rows m1) (.int cols m2) (.int top m3) (.int bottom m4) (.int left m5) (.int right m6))]
      (Cps fun G => ∀ (t1 : Tok) (t2 : Tok), G .none [(cu, instObj 74 dcu), (dcu, curD cc (.int r t1) (.int (fst0 left x) t2) (.bool false) (.bool og)), (ma, instObj 207 dma), (dma, marD mc (.int rows m1) (.int cols m2) (.int top m3) (.int bottom m4) (.int left m5) (.int right m6))]) := by
  k_with_none
  (k_with "call ref" => (k_here; k_dflt ( (with_reducible show wpAny _ _ (call (Value.ref 29) _ _) _ _ _); refine' spec_callC (as := []) (clamp_spec  ) ?B ?F ?X ?T ?N ?hA ?hh ?hf ?hk sub_nil ?has ?hrest ?hd ?hu ?_; walk_at "sp-a"; walk_at "sp-z"; intro t' h' tk' hO' F' N'; walk_at "sp-n")))
  (k_with "call ref" => (k_here; k_dflt ( (with_reducible show wpAny _ _ (call (Value.ref 57) _ _) _ _ _); refine' spec_callC (as := [_, _]) (go_spec  ?hne) ?B ?F ?X ?T ?N ?hA ?hh ?hf ?hk (sub_cons ?m1 (sub_cons ?m2 sub_nil)) ?has ?hrest ?hd ?hu ?_; walk_at "sp-a"; walk_at "sp-m1"; walk_at "sp-m2"; (case hne => walk_at "sp-ne"); walk_at "sp-z"; intro  h' tk' hO' F' N'; walk_at "sp-n")))
  (k_with "call ref" => (k_here; k_dflt ( (with_reducible show wpAny _ _ (call (Value.ref 176) _ _) _ _ _); refine' spec_callC (as := [_, _]) (first_row_spec  ?hne) ?B ?F ?X ?T ?N ?hA ?hh ?hf ?hk (sub_cons ?m1 (sub_cons ?m2 sub_nil)) ?has ?hrest ?hd ?hu ?_; walk_at "sp-a"; walk_at "sp-m1"; walk_at "sp-m2"; (case hne => walk_at "sp-ne"); walk_at "sp-z"; intro t' h' tk' hO' F' N'; walk_at "sp-n")))
  (k_with "call ref" => (k_here; k_dflt ( (with_reducible show wpAny _ _ (call (Value.ref 183) _ _) _ _ _); refine' spec_callC (as := [_, _]) (last_row_spec  ?hne) ?B ?F ?X ?T ?N ?hA ?hh ?hf ?hk (sub_cons ?m1 (sub_cons ?m2 sub_nil)) ?has ?hrest ?hd ?hu ?_; walk_at "sp-a"; walk_at "sp-m1"; walk_at "sp-m2"; (case hne => walk_at "sp-ne"); walk_at "sp-z"; intro t' h' tk' hO' F' N'; walk_at "sp-n")))
  (k_with "call ref" => (k_here; k_dflt ( (with_reducible show wpAny _ _ (call (Value.ref 190) _ _) _ _ _); refine' spec_callC (as := [_, _]) (first_column_spec  ?hne) ?B ?F ?X ?T ?N ?hA ?hh ?hf ?hk (sub_cons ?m1 (sub_cons ?m2 sub_nil)) ?has ?hrest ?hd ?hu ?_; walk_at "sp-a"; walk_at "sp-m1"; walk_at "sp-m2"; (case hne => walk_at "sp-ne"); walk_at "sp-z"; intro t' h' tk' hO' F' N'; walk_at "sp-n")))
  (k_with "call ref" => (k_here; k_dflt ( (with_reducible show wpAny _ _ (call (Value.ref 197) _ _) _ _ _); refine' spec_callC (as := [_, _]) (last_column_spec  ?hne) ?B ?F ?X ?T ?N ?hA ?hh ?hf ?hk (sub_cons ?m1 (sub_cons ?m2 sub_nil)) ?has ?hrest ?hd ?hu ?_; walk_at "sp-a"; walk_at "sp-m1"; walk_at "sp-m2"; (case hne => walk_at "sp-ne"); walk_at "sp-z"; intro t' h' tk' hO' F' N'; walk_at "sp-n")))
  (k_with "call ref" => (k_here; k_dflt ( (with_reducible show wpAny _ _ (call (Value.ref 232) _ _) _ _ _); refine' spec_callC (as := [_, _, _, _]) (row_of_spec  ?hn) ?B ?F ?X ?T ?N ?hA ?hh ?hf ?hk (sub_cons ?m1 (sub_cons ?m2 (sub_cons ?m3 (sub_cons ?m4 sub_nil)))) ?has ?hrest ?hd ?hu ?_; walk_at "sp-a"; walk_at "sp-m1"; walk_at "sp-m2"; walk_at "sp-m3"; walk_at "sp-m4"; (case hn => walk_at "sp-dist"); walk_at "sp-z"; intro t' h' tk' hO' F' N'; walk_at "sp-n")))
  (k_with "call ref" => (k_here; k_dflt ( (with_reducible show wpAny _ _ (call (Value.ref 239) _ _) _ _ _); refine' spec_callC (as := [_, _, _, _]) (col_of_spec  ?hn) ?B ?F ?X ?T ?N ?hA ?hh ?hf ?hk (sub_cons ?m1 (sub_cons ?m2 (sub_cons ?m3 (sub_cons ?m4 sub_nil)))) ?has ?hrest ?hd ?hu ?_; walk_at "sp-a"; walk_at "sp-m1"; walk_at "sp-m2"; walk_at "sp-m3"; walk_at "sp-m4"; (case hn => walk_at "sp-dist"); walk_at "sp-z"; intro t' h' tk' hO' F' N'; walk_at "sp-n")))
  (k_with "e-cur" => (refine' SpecEnd.introC ((_, _) :: (_, _) :: [(_, _), (_, _)]) ?F ?N ?hs rfl (cur_eq ?e1 ?e2) (fun _ k => k _ _); walk_at "sp-e"; (case e1 => first | rfl | exact step_row (by assumption) (by assumption) | (simp_all; done) | (simp_all [fst0, lst0]; omega) | ((simp only [fst0, lst0] at *); (repeat' split) <;> omega) | ((repeat' split) <;> omega)); (case e2 => first | rfl | exact step_col (by assumption) | exact ret_col (hx (by assumption)) | exact ret_col (by simp_all) | (simp_all; done) | (simp_all [fst0, lst0]; omega) | ((simp only [fst0, lst0] at *); (repeat' split) <;> omega) | ((repeat' split) <;> omega))))
  have n1 := And.left hn
  have n2 := And.left (And.right hn)
  have n3 := And.left (And.right (And.right hn))
  clear hn
  k_fill
  refine' spec_enter (binds := [(Str.ofString "cursor", .ref cu), (Str.ofString "margins", .ref ma)]) ?ko ?kcd ?kb ?kl ?k1 ?_ ?kc ?c1 ?c2 ?c3
  (case ko => k_dflt k_is)
  (case kcd => k_dflt k_is)
  (case c1 => rfl)
  (case c2 => rfl)
  (case c3 => rfl)
  (case kb => (intro s hX; first | exact BindsTo.of_eq rfl | (k_dflt (refine' binds_K hX ?b1 ?b2 ?b3 ?b4 ?b5; (case b1 => exact rfl); (case b2 => k_is); (case b3 => exact rfl); (case b4 => exact rfl); (case b5 => exact rfl)))))
  (case kl => exact locs rfl)
  (case k1 => decide)
  (case kc => decide)
  intro p loose mean mg mb dp un gd outer A₀ base g s L' h₁ hd hu B F N X T
  (try dsimp only)
  (try k_fold)
  k_steps
  all_goals (try dsimp only); (try k_unfold); (try dsimp only)
  all_goals walk_at "e-cur"
set_option maxRecDepth 100000 in
set_option maxHeartbeats 2000000 in
theorem stepped_spec {w : World} {cu dcu : Addr} {cc : CK} {r x : Int} {tr tx : Tok} {wt : Value} {og : Value} {ma dma : Addr} {mc : MK} {rows cols top bottom left right : Int} {m1 m2 m3 m4 m5 m6 : Tok} (hn : Dist [cu, dcu, ma, dma])
    (h1 : 0 ≤ r) (h2 : r < rows) (h3 : 0 ≤ x) (h4 : x < cols) :
    Spec PySem.Challenge.rw_og0257_01.row.prog w (hd.heap_1 w.params) 7 267 [.ref cu, .ref ma] [(cu, instObj 74 dcu), (dcu, curD cc (.int r tr) (.int x tx) wt og), (ma, instObj 207 dma), (dma, marD mc (.int rows m1) (.int cols m2) (.int top m3) (.int bottom m4) (.int left m5) (.int right m6))]
      (Cps fun G => ∀ (t1 : Tok) (t2 : Tok), G .none [(cu, instObj 74 dcu), (dcu, curD cc (.int r t1) (.int (max (fst0 left x) (x - 1)) t2) (.bool false) og), (ma, instObj 207 dma), (dma, marD mc (.int rows m1) (.int cols m2) (.int top m3) (.int bottom m4) (.int left m5) (.int right m6))]) := by
  k_with_none
  (k_with "call ref" => (k_here; k_dflt ( (with_reducible show wpAny _ _ (call (Value.ref 29) _ _) _ _ _); refine' spec_callC (as := []) (clamp_spec  ) ?B ?F ?X ?T ?N ?hA ?hh ?hf ?hk sub_nil ?has ?hrest ?hd ?hu ?_; walk_at "sp-a"; walk_at "sp-z"; intro t' h' tk' hO' F' N'; walk_at "sp-n")))
  (k_with "call ref" => (k_here; k_dflt ( (with_reducible show wpAny _ _ (call (Value.ref 57) _ _) _ _ _); refine' spec_callC (as := [_, _]) (go_spec  ?hne) ?B ?F ?X ?T ?N ?hA ?hh ?hf ?hk (sub_cons ?m1 (sub_cons ?m2 sub_nil)) ?has ?hrest ?hd ?hu ?_; walk_at "sp-a"; walk_at "sp-m1"; walk_at "sp-m2"; (case hne => walk_at "sp-ne"); walk_at "sp-z"; intro  h' tk' hO' F' N'; walk_at "sp-n")))
  (k_with "call ref" => (k_here; k_dflt ( (with_reducible show wpAny _ _ (call (Value.ref 176) _ _) _ _ _); refine' spec_callC (as := [_, _]) (first_row_spec  ?hne) ?B ?F ?X ?T ?N ?hA ?hh ?hf ?hk (sub_cons ?m1 (sub_cons ?m2 sub_nil)) ?has ?hrest ?hd ?hu ?_; walk_at "sp-a"; walk_at "sp-m1"; walk_at "sp-m2"; (case hne => walk_at "sp-ne"); walk_at "sp-z"; intro t' h' tk' hO' F' N'; walk_at "sp-n")))
  (k_with "call ref" => (k_here; k_dflt ( (with_reducible show wpAny _ _ (call (Value.ref 183) _ _) _ _ _); refine' spec_callC (as := [_, _]) (last_row_spec  ?hne) ?B ?F ?X ?T ?N ?hA ?hh ?hf ?hk (sub_cons ?m1 (sub_cons ?m2 sub_nil)) ?has ?hrest ?hd ?hu ?_; walk_at "sp-a"; walk_at "sp-m1"; walk_at "sp-m2"; (case hne => walk_at "sp-ne"); walk_at "sp-z"; intro t' h' tk' hO' F' N'; walk_at "sp-n")))
  (k_with "call ref" => (k_here; k_dflt ( (with_reducible show wpAny _ _ (call (Value.ref 190) _ _) _ _ _); refine' spec_callC (as := [_, _]) (first_column_spec  ?hne) ?B ?F ?X ?T ?N ?hA ?hh ?hf ?hk (sub_cons ?m1 (sub_cons ?m2 sub_nil)) ?has ?hrest ?hd ?hu ?_; walk_at "sp-a"; walk_at "sp-m1"; walk_at "sp-m2"; (case hne => walk_at "sp-ne"); walk_at "sp-z"; intro t' h' tk' hO' F' N'; walk_at "sp-n")))
  (k_with "call ref" => (k_here; k_dflt ( (with_reducible show wpAny _ _ (call (Value.ref 197) _ _) _ _ _); refine' spec_callC (as := [_, _]) (last_column_spec  ?hne) ?B ?F ?X ?T ?N ?hA ?hh ?hf ?hk (sub_cons ?m1 (sub_cons ?m2 sub_nil)) ?has ?hrest ?hd ?hu ?_; walk_at "sp-a"; walk_at "sp-m1"; walk_at "sp-m2"; (case hne => walk_at "sp-ne"); walk_at "sp-z"; intro t' h' tk' hO' F' N'; walk_at "sp-n")))
  (k_with "call ref" => (k_here; k_dflt ( (with_reducible show wpAny _ _ (call (Value.ref 232) _ _) _ _ _); refine' spec_callC (as := [_, _, _, _]) (row_of_spec  ?hn) ?B ?F ?X ?T ?N ?hA ?hh ?hf ?hk (sub_cons ?m1 (sub_cons ?m2 (sub_cons ?m3 (sub_cons ?m4 sub_nil)))) ?has ?hrest ?hd ?hu ?_; walk_at "sp-a"; walk_at "sp-m1"; walk_at "sp-m2"; walk_at "sp-m3"; walk_at "sp-m4"; (case hn => walk_at "sp-dist"); walk_at "sp-z"; intro t' h' tk' hO' F' N'; walk_at "sp-n")))
  (k_with "call ref" => (k_here; k_dflt ( (with_reducible show wpAny _ _ (call (Value.ref 239) _ _) _ _ _); refine' spec_callC (as := [_, _, _, _]) (col_of_spec  ?hn) ?B ?F ?X ?T ?N ?hA ?hh ?hf ?hk (sub_cons ?m1 (sub_cons ?m2 (sub_cons ?m3 (sub_cons ?m4 sub_nil)))) ?has ?hrest ?hd ?hu ?_; walk_at "sp-a"; walk_at "sp-m1"; walk_at "sp-m2"; walk_at "sp-m3"; walk_at "sp-m4"; (case hn => walk_at "sp-dist"); walk_at "sp-z"; intro t' h' tk' hO' F' N'; walk_at "sp-n")))
  (k_with "e-cur" => (refine' SpecEnd.introC ((_, _) :: (_, _) :: [(_, _), (_, _)]) ?F ?N ?hs rfl (cur_eq ?e1 ?e2) (fun _ k => k _ _); walk_at "sp-e"; (case e1 => first | rfl | exact step_row (by assumption) (by assumption) | (simp_all; done) | (simp_all [fst0, lst0]; omega) | ((simp only [fst0, lst0] at *); (repeat' split) <;> omega) | ((repeat' split) <;> omega)); (case e2 => first | rfl | exact step_col (by assumption) | exact ret_col (hx (by assumption)) | exact ret_col (by simp_all) | (simp_all; done) | (simp_all [fst0, lst0]; omega) | ((simp only [fst0, lst0] at *); (repeat' split) <;> omega) | ((repeat' split) <;> omega))))
  have n1 := And.left hn
  have n2 := And.left (And.right hn)
  have n3 := And.left (And.right (And.right hn))
  clear hn
  k_fill
  refine' spec_enter (binds := [(Str.ofString "cursor", .ref cu), (Str.ofString "margins", .ref ma)]) ?ko ?kcd ?kb ?kl ?k1 ?_ ?kc ?c1 ?c2 ?c3
  (case ko => k_dflt k_is)
  (case kcd => k_dflt k_is)
  (case c1 => rfl)
  (case c2 => rfl)
  (case c3 => rfl)
  (case kb => (intro s hX; first | exact BindsTo.of_eq rfl | (k_dflt (refine' binds_K hX ?b1 ?b2 ?b3 ?b4 ?b5; (case b1 => exact rfl); (case b2 => k_is); (case b3 => exact rfl); (case b4 => exact rfl); (case b5 => exact rfl)))))
  (case kl => exact locs rfl)
  (case k1 => decide)
  (case kc => decide)
  intro p loose mean mg mb dp un gd outer A₀ base g s L' h₁ hd hu B F N X T
  (try dsimp only)
  (try k_fold)
  k_steps
  all_goals (try dsimp only); (try k_unfold); (try dsimp only)
  all_goals walk_at "e-cur"
end
section
abbrev tup2 (a b : Value) : Obj := { cls := .type "tuple", data := .seq #[a, b] }
abbrev tup4 (a b c d : Value) : Obj := { cls := .type "tuple", data := .seq #[a, b, c, d] }
theorem tup4_eq {tp : Addr} {a a' b b' c c' d d' : Int} {t1 t2 t3 t4 : Tok} {l : Led} (h1 : a = a') (h2 : b = b') (h3 : c = c') (h4 : d = d') :
    (tp, tup4 (.int a t1) (.int b t2) (.int c t3) (.int d t4)) :: l = (tp, tup4 (.int a' t1) (.int b' t2) (.int c' t3) (.int d' t4)) :: l := by subst h1; subst h2; subst h3; subst h4; rfl
def IfInt (x : Int) (s : Shared) (v : Value) (s' : Shared) : Prop := ∃ t tk, v = .int x t ∧ s' = { s with toks := tk }
theorem IfInt.mk {x y : Int} {s : Shared} {t : Tok} {tk : Nat} (e : y = x) : IfInt x s (.int y t) { s with toks := tk } := ⟨t, tk, by rw [e], rfl⟩
theorem if_int {M : Model} {A : Around} {E : Value → Shared → Prop} {s : Shared} {env : Env} {test body orelse : Expr} {pos : Pos} {Q : Value → Shared → Prop} (x : Int)
    (h : wpAny M A (isTrue test env (eval test env)) (fun b s₁ => if b then wpAny M A (eval body env) (IfInt x s) E s₁ else wpAny M A (eval orelse env) (IfInt x s) E s₁) E s)
    (k : ∀ t tk, Q (.int x t) { s with toks := tk }) : wpAny M A (eval (.IfExp test body orelse pos) env) Q E s :=
  wpAny_IfExp (wpAny_mono h (fun b s₁ hb => by
    cases b
    · exact wpAny_mono hb (fun v s' hv => by obtain ⟨t, tk, rfl, rfl⟩ := hv; exact k t tk) fun _ _ e => e
    · exact wpAny_mono hb (fun v s' hv => by obtain ⟨t, tk, rfl, rfl⟩ := hv; exact k t tk) fun _ _ e => e) fun _ _ e => e)
local macro_rules | `(tactic| walk_at "IfInt") => `(tactic| (exact IfInt.mk (by ((try simp only [decide_eq_true_eq, decide_eq_false_iff_not] at *); (first | unfold fst0 | unfold lst0); (first | rw [if_pos (by omega)] | rw [if_neg (by omega)])))))
set_option hygiene false in
local macro_rules | `(tactic| walk_at "eval IfExp") => `(tactic| (k_here; (with_reducible show wpAny _ _ (PySem.eval (PySem.Expr.IfExp _ (PySem.Expr.Subscript _ (PySem.Expr.Constant (PySem.Const.str (Str.ofString "top")) _ _) _) _ _) _) _ _ _); k_dflt ((refine if_int (fst0 top row) ?_ ?_); rotate_left; intro tU tkU; (try dsimp only); rotate_left)))
set_option hygiene false in
local macro_rules | `(tactic| walk_at "eval IfExp") => `(tactic| (k_here; (with_reducible show wpAny _ _ (PySem.eval (PySem.Expr.IfExp _ (PySem.Expr.Subscript _ (PySem.Expr.Constant (PySem.Const.str (Str.ofString "bottom")) _ _) _) _ _) _) _ _ _); k_dflt ((refine if_int (lst0 bottom rows row) ?_ ?_); rotate_left; intro tU tkU; (try dsimp only); rotate_left)))
set_option hygiene false in
local macro_rules | `(tactic| walk_at "eval IfExp") => `(tactic| (k_here; (with_reducible show wpAny _ _ (PySem.eval (PySem.Expr.IfExp _ (PySem.Expr.Subscript _ (PySem.Expr.Constant (PySem.Const.str (Str.ofString "left")) _ _) _) _ _) _) _ _ _); k_dflt ((refine if_int (fst0 left col) ?_ ?_); rotate_left; intro tU tkU; (try dsimp only); rotate_left)))
set_option hygiene false in
local macro_rules | `(tactic| walk_at "eval IfExp") => `(tactic| (k_here; (with_reducible show wpAny _ _ (PySem.eval (PySem.Expr.IfExp _ (PySem.Expr.Subscript _ (PySem.Expr.Constant (PySem.Const.str (Str.ofString "right")) _ _) _) _ _) _) _ _ _); k_dflt ((refine if_int (lst0 right cols col) ?_ ?_); rotate_left; intro tU tkU; (try dsimp only); rotate_left)))
set_option maxRecDepth 100000 in
set_option maxHeartbeats 2000000 in
theorem limits_spec {w : World} {ow : Addr} {oW : Obj} {rows cols top left bottom right row col : Int} {wait org : Bool} {ol : Addr} (hW : OwnIs w oW rows cols top left bottom right row col wait org ol) :
    Spec PySem.Challenge.rw_og0257_01.row.prog w (hd.heap_1 w.params) 3 401 [.ref ow] [(ow, oW)]
      (Cps fun G => ∀ (tp : Addr), (tp ≠ ow) → ∀ (t1 : Tok) (t2 : Tok) (t3 : Tok) (t4 : Tok), G (.ref tp) [(tp, tup4 (.int (fst0 top row) t1) (.int (lst0 bottom rows row) t2) (.int (fst0 left col) t3) (.int (lst0 right cols col) t4)), (ow, oW)]) := by
  k_with_none
  (k_with "e-tup4" => (refine' SpecEnd.introC ((_, _) :: [(_, _)]) ?F ?N ?hs rfl (tup4_eq ?e1 ?e2 ?e3 ?e4) (fun _ k => k _ ?ne _ _ _ _); walk_at "sp-e"; (case ne => walk_at "sp-ne"); (case e1 => rfl); (case e2 => rfl); (case e3 => rfl); (case e4 => rfl)))
  refine hW _ ?_; clear hW; intro o1 o2 o3 o4 o5 o6 o7 o8 hW
  k_fill
  refine' spec_enter (binds := [(Str.ofString "own", .ref ow)]) ?ko ?kcd ?kb ?kl ?k1 ?_ ?kc ?c1 ?c2 ?c3
  (case ko => k_dflt k_is)
  (case kcd => k_dflt k_is)
  (case c1 => rfl)
  (case c2 => rfl)
  (case c3 => rfl)
  (case kb => (intro s hX; first | exact BindsTo.of_eq rfl | (k_dflt (refine' binds_K hX ?b1 ?b2 ?b3 ?b4 ?b5; (case b1 => exact rfl); (case b2 => k_is); (case b3 => exact rfl); (case b4 => exact rfl); (case b5 => exact rfl)))))
  (case kl => exact locs rfl)
  (case k1 => decide)
  (case kc => decide)
  intro p loose mean mg mb dp un gd outer A₀ base g s L' h₁ hd hu B F N X T
  (try dsimp only)
  (try k_fold)
  k_steps
  all_goals (try dsimp only); (try k_unfold); (try dsimp only)
  all_goals walk_at "e-tup4"
set_option maxRecDepth 100000 in
set_option maxHeartbeats 2000000 in
theorem home_spec {w : World} {ow : Addr} {oW : Obj} {rows cols top left bottom right row col : Int} {wait org : Bool} {ol : Addr} (hW : OwnIs w oW rows cols top left bottom right row col wait org ol) :
    Spec PySem.Challenge.rw_og0257_01.row.prog w (hd.heap_1 w.params) 3 394 [.ref ow] [(ow, oW)]
      (Cps fun G => ∀ (oW' : Obj), (OwnIs w oW' rows cols top left bottom right (if org then top else 0) (if org then left else 0) wait org ol) → G .none [(ow, oW')]) := by
  k_with_none
  (k_with "e-home" => (refine' SpecEnd.introC [(_, _)] ?F ?N ?hs rfl rfl (fun _ k => k _ (own_mk ?hD rfl rfl rfl rfl ?e1 ?e2 rfl rfl)); walk_at "sp-e"; (case hD => assumption); (case e1 => first | rfl | (simp_all; done)); (case e2 => first | rfl | (simp_all; done))))
  refine hW _ ?_; clear hW; intro o1 o2 o3 o4 o5 o6 o7 o8 hW
  k_fill
  refine' spec_enter (binds := [(Str.ofString "own", .ref ow)]) ?ko ?kcd ?kb ?kl ?k1 ?_ ?kc ?c1 ?c2 ?c3
  (case ko => k_dflt k_is)
  (case kcd => k_dflt k_is)
  (case c1 => rfl)
  (case c2 => rfl)
  (case c3 => rfl)
  (case kb => (intro s hX; first | exact BindsTo.of_eq rfl | (k_dflt (refine' binds_K hX ?b1 ?b2 ?b3 ?b4 ?b5; (case b1 => exact rfl); (case b2 => k_is); (case b3 => exact rfl); (case b4 => exact rfl); (case b5 => exact rfl)))))
  (case kl => exact locs rfl)
  (case k1 => decide)
  (case kc => decide)
  intro p loose mean mg mb dp un gd outer A₀ base g s L' h₁ hd hu B F N X T
  (try dsimp only)
  (try k_fold)
  k_steps
  all_goals (try dsimp only); (try k_unfold); (try dsimp only)
  all_goals walk_at "e-home"
end
section
set_option maxRecDepth 100000 in
set_option maxHeartbeats 2000000 in
theorem lgo_spec {w : World} {dk lc : Addr} {oD : Obj} {ys : List Value} {ns : List Int} {a : Int} {ow : Addr} {oW : Obj} {rows cols top left bottom right row col : Int} {wait org : Bool} {ol : Addr} {cu dcu : Addr} {cc : CK} {r0 x0 wt og : Value} (hn : Dist [dk, lc, ow, cu, dcu]) (hDk : DeckIs w oD lc a) (hI : IntsAre ys ns) (hL : ns.length ≤ 48) (ha0 : 0 ≤ a) (ha1 : a < 900000) (hW : OwnIs w oW rows cols top left bottom right row col wait org ol)
    (hr : 0 < rows) (hr2 : rows < 100) (hc : 0 < cols) (hc2 : cols < 100) (h1 : 0 ≤ top) (h2 : top ≤ bottom) (h3 : bottom < rows) (h4 : 0 ≤ left) (h5 : left ≤ right) (h6 : right < cols) :
    Spec PySem.Challenge.rw_og0257_01.row.prog w (hd.heap_1 w.params) 4 413 [.ref dk, .ref cu, .ref ow] [(dk, oD), (lc, LCg.lst ys), (ow, oW), (cu, instObj 74 dcu), (dcu, curD cc r0 x0 wt og)]
      (Cps fun G => ∀ (oD' : Obj) (a' : Int) (oW' : Obj) (r : Int) (x : Int) (t1 : Tok) (t2 : Tok), (DeckIs w oD' lc a') → (a ≤ a') → (a' ≤ a + 2) → (OwnIs w oW' rows cols top left bottom right r x wait org ol) → ((org = true → top ≤ r ∧ r ≤ bottom ∧ left ≤ x ∧ x ≤ right)) → ((org = false → 0 ≤ r ∧ r < rows ∧ 0 ≤ x ∧ x < cols)) → G .none [(dk, oD'), (lc, LCg.lst ys), (ow, oW'), (cu, instObj 74 dcu), (dcu, curD cc (.int r t1) (.int x t2) (.bool false) og)]) := by
  k_with_none
  (k_with "call ref" => (k_here; k_dflt ( (with_reducible show wpAny _ _ (call (Value.ref 387) _ _) _ _ _); refine' spec_callC (as := [_, _]) (draw_spec  ?hne ?hDk ?hI ?hl2 ?ha0 ?ha1 ?hs0 ?hs1 ?hb0 ?hb1) ?B ?F ?X ?T ?N ?hA ?hh ?hf ?hk (sub_cons ?m1 (sub_cons ?m2 sub_nil)) ?has ?hrest ?hd ?hu ?_; walk_at "sp-a"; walk_at "sp-m1"; (case hDk => k_asm); walk_at "sp-m2"; (case hne => walk_at "sp-ne"); (case hI => l_ints); (case hl2 => walk_at "sp-len"); (case ha0 => walk_at "sp-om"); (case ha1 => walk_at "sp-om"); (case hs0 => walk_at "sp-om"); (case hs1 => walk_at "sp-om"); (case hb0 => walk_at "sp-om"); (case hb1 => walk_at "sp-om"); walk_at "sp-z"; intro r' t' oD' st' ta' ts' hr0' hr1' hD' hs0' hs1' h' tk' hO' F' N'; walk_at "sp-n")))
  (k_with "call ref" => (k_here; k_dflt ( (with_reducible show wpAny _ _ (call (Value.ref 57) _ _) _ _ _); refine' spec_callC (as := [_, _]) (go_spec  ?hne) ?B ?F ?X ?T ?N ?hA ?hh ?hf ?hk (sub_cons ?m1 (sub_cons ?m2 sub_nil)) ?has ?hrest ?hd ?hu ?_; walk_at "sp-a"; walk_at "sp-m1"; walk_at "sp-m2"; (case hne => walk_at "sp-ne"); walk_at "sp-z"; intro  h' tk' hO' F' N'; walk_at "sp-n")))
  (k_with "call ref" => (k_here; k_dflt ( (with_reducible show wpAny _ _ (call (Value.ref 253) _ _) _ _ _); refine' spec_callC (as := [_, _, _, _]) (homed_spec  ?hn ?hr ?hc ?h1 ?h2) ?B ?F ?X ?T ?N ?hA ?hh ?hf ?hk (sub_cons ?m1 (sub_cons ?m2 (sub_cons ?m3 (sub_cons ?m4 sub_nil)))) ?has ?hrest ?hd ?hu ?_; walk_at "sp-a"; walk_at "sp-m1"; walk_at "sp-m2"; walk_at "sp-m3"; walk_at "sp-m4"; (case hn => walk_at "sp-dist"); (case hr => walk_at "sp-om"); (case hc => walk_at "sp-om"); (case h1 => walk_at "sp-om"); (case h2 => walk_at "sp-om"); walk_at "sp-z"; intro t1' t2' h' tk' hO' F' N'; walk_at "sp-n")))
  (k_with "call ref" => (k_here; k_dflt ( (with_reducible show wpAny _ _ (call (Value.ref 394) _ _) _ _ _); refine' spec_callC (as := [_]) (home_spec  ?hW) ?B ?F ?X ?T ?N ?hA ?hh ?hf ?hk (sub_cons ?m1 sub_nil) ?has ?hrest ?hd ?hu ?_; walk_at "sp-a"; walk_at "sp-m1"; (case hW => exact own_mk (by k_asm) rfl rfl rfl rfl rfl rfl rfl rfl); walk_at "sp-z"; intro oW' hW' h' tk' hO' F' N'; walk_at "sp-ow"; walk_at "sp-n")))
  (k_with "e-lgo" => (refine' SpecEnd.introC ((_, _) :: (_, _) :: (_, _) :: (_, _) :: [(_, curD _ (.int _ _) (.int _ _) _ _)]) ?F ?N ?hs rfl rfl (fun _ k => k _ _ _ _ _ _ _ (deck_mk ?hDk ?i1 ?i2 rfl) ?i3 ?i4 (own_mk ?hW rfl rfl rfl rfl rfl rfl rfl rfl) ?b1 ?b2); walk_at "sp-e"; walk_at "sp-hDk"; walk_at "sp-hW"; walk_at "sp-i1"; walk_at "sp-i2"; walk_at "sp-i3"; walk_at "sp-i4"; (case b1 => (intro _; first | (simp_all; done) | (refine ⟨?_, ?_, ?_, ?_⟩ <;> omega))); (case b2 => (intro _; first | (simp_all; done) | (refine ⟨?_, ?_, ?_, ?_⟩ <;> omega)))))
  have n1 := And.left hn
  have n2 := And.left (And.right hn)
  have n3 := And.left (And.right (And.right hn))
  have n4 := And.left (And.right (And.right (And.right hn)))
  clear hn
  refine hDk _ ?_; clear hDk; intro sti dta1 dts1 hDk hs0 hs1
  refine hW _ ?_; clear hW; intro o1 o2 o3 o4 o5 o6 o7 o8 hW
  k_fill
  refine' spec_enter (binds := [(Str.ofString "deck", .ref dk), (Str.ofString "cursor", .ref cu), (Str.ofString "own", .ref ow)]) ?ko ?kcd ?kb ?kl ?k1 ?_ ?kc ?c1 ?c2 ?c3
  (case ko => k_dflt k_is)
  (case kcd => k_dflt k_is)
  (case c1 => rfl)
  (case c2 => rfl)
  (case c3 => rfl)
  (case kb => (intro s hX; first | exact BindsTo.of_eq rfl | (k_dflt (refine' binds_K hX ?b1 ?b2 ?b3 ?b4 ?b5; (case b1 => exact rfl); (case b2 => k_is); (case b3 => exact rfl); (case b4 => exact rfl); (case b5 => exact rfl)))))
  (case kl => exact locs rfl)
  (case k1 => decide)
  (case kc => decide)
  intro p loose mean mg mb dp un gd outer A₀ base g s L' h₁ hd hu B F N X T
  (try dsimp only)
  (try k_fold)
  k_steps
  all_goals (try dsimp only); (try k_unfold); (try dsimp only)
  all_goals walk_at "e-lgo"
end
section
local macro_rules | `(tactic| walk_at "no key 0") => `(tactic| skip)
set_option maxRecDepth 100000 in
set_option maxHeartbeats 2000000 in
theorem lwait_spec {w : World} {dk lc : Addr} {oD : Obj} {ys : List Value} {ns : List Int} {a : Int} {ow : Addr} {oW : Obj} {rows cols top left bottom right row col : Int} {wait org : Bool} {ol : Addr} {cu dcu : Addr} {cc : CK} {tr : Tok} {x0 wt og : Value} (hn : Dist [dk, lc, ow, cu, dcu]) (hDk : DeckIs w oD lc a) (hI : IntsAre ys ns) (hL : ns.length ≤ 48) (ha0 : 0 ≤ a) (ha1 : a < 900000) (hW : OwnIs w oW rows cols top left bottom right row col wait org ol) :
    Spec PySem.Challenge.rw_og0257_01.row.prog w (hd.heap_1 w.params) 4 427 [.ref dk, .ref cu, .ref ow] [(dk, oD), (lc, LCg.lst ys), (ow, oW), (cu, instObj 74 dcu), (dcu, curD cc (.int row tr) x0 wt og)]
      (Cps fun G => ∀ (oD' : Obj) (a' : Int) (oW' : Obj) (x : Int) (t1 : Tok) (t2 : Tok), (DeckIs w oD' lc a') → (a ≤ a') → (a' ≤ a + 1) → (OwnIs w oW' rows cols top left bottom right row x wait org ol) → ((x = right ∨ (org = false ∧ x = cols - 1))) → G (.bool true) [(dk, oD'), (lc, LCg.lst ys), (ow, oW'), (cu, instObj 74 dcu), (dcu, curD cc (.int row t1) (.int x t2) (.bool true) og)]) := by
  k_with_none
  (k_with "call ref" => (k_here; k_dflt ( (with_reducible show wpAny _ _ (call (Value.ref 387) _ _) _ _ _); refine' spec_callC (as := [_, _]) (draw_spec  ?hne ?hDk ?hI ?hl2 ?ha0 ?ha1 ?hs0 ?hs1 ?hb0 ?hb1) ?B ?F ?X ?T ?N ?hA ?hh ?hf ?hk (sub_cons ?m1 (sub_cons ?m2 sub_nil)) ?has ?hrest ?hd ?hu ?_; walk_at "sp-a"; walk_at "sp-m1"; (case hDk => k_asm); walk_at "sp-m2"; (case hne => walk_at "sp-ne"); (case hI => l_ints); (case hl2 => walk_at "sp-len"); (case ha0 => walk_at "sp-om"); (case ha1 => walk_at "sp-om"); (case hs0 => walk_at "sp-om"); (case hs1 => walk_at "sp-om"); (case hb0 => walk_at "sp-om"); (case hb1 => walk_at "sp-om"); walk_at "sp-z"; intro r' t' oD' st' ta' ts' hr0' hr1' hD' hs0' hs1' h' tk' hO' F' N'; walk_at "sp-n")))
  (k_with "call ref" => (k_here; k_dflt ( (with_reducible show wpAny _ _ (call (Value.ref 57) _ _) _ _ _); refine' spec_callC (as := [_, _]) (go_spec  ?hne) ?B ?F ?X ?T ?N ?hA ?hh ?hf ?hk (sub_cons ?m1 (sub_cons ?m2 sub_nil)) ?has ?hrest ?hd ?hu ?_; walk_at "sp-a"; walk_at "sp-m1"; walk_at "sp-m2"; (case hne => walk_at "sp-ne"); walk_at "sp-z"; intro  h' tk' hO' F' N'; walk_at "sp-n")))
  (k_with "call ref" => (k_here; k_dflt ( (with_reducible show wpAny _ _ (call (Value.ref 253) _ _) _ _ _); refine' spec_callC (as := [_, _, _, _]) (homed_spec  ?hn ?hr ?hc ?h1 ?h2) ?B ?F ?X ?T ?N ?hA ?hh ?hf ?hk (sub_cons ?m1 (sub_cons ?m2 (sub_cons ?m3 (sub_cons ?m4 sub_nil)))) ?has ?hrest ?hd ?hu ?_; walk_at "sp-a"; walk_at "sp-m1"; walk_at "sp-m2"; walk_at "sp-m3"; walk_at "sp-m4"; (case hn => walk_at "sp-dist"); (case hr => walk_at "sp-om"); (case hc => walk_at "sp-om"); (case h1 => walk_at "sp-om"); (case h2 => walk_at "sp-om"); walk_at "sp-z"; intro t1' t2' h' tk' hO' F' N'; walk_at "sp-n")))
  (k_with "call ref" => (k_here; k_dflt ( (with_reducible show wpAny _ _ (call (Value.ref 394) _ _) _ _ _); refine' spec_callC (as := [_]) (home_spec  ?hW) ?B ?F ?X ?T ?N ?hA ?hh ?hf ?hk (sub_cons ?m1 sub_nil) ?has ?hrest ?hd ?hu ?_; walk_at "sp-a"; walk_at "sp-m1"; (case hW => exact own_mk (by k_asm) rfl rfl rfl rfl rfl rfl rfl rfl); walk_at "sp-z"; intro oW' hW' h' tk' hO' F' N'; walk_at "sp-ow"; walk_at "sp-n")))
  (k_with "e-wait" => (refine' SpecEnd.introC ((_, _) :: (_, _) :: (_, _) :: (_, _) :: [(_, curD _ (.int _ _) (.int _ _) _ _)]) ?F ?N ?hs rfl rfl (fun _ k => k _ _ _ _ _ _ (deck_mk ?hDk ?i1 ?i2 rfl) ?i3 ?i4 (own_mk ?hW rfl rfl rfl rfl rfl rfl rfl rfl) ?b1); walk_at "sp-e"; walk_at "sp-hDk"; walk_at "sp-hW"; walk_at "sp-i1"; walk_at "sp-i2"; walk_at "sp-i3"; walk_at "sp-i4"; (case b1 => first | exact Or.inl rfl | (refine Or.inr ⟨?_, rfl⟩; simp_all; done))))
  have n1 := And.left hn
  have n2 := And.left (And.right hn)
  have n3 := And.left (And.right (And.right hn))
  have n4 := And.left (And.right (And.right (And.right hn)))
  clear hn
  refine hDk _ ?_; clear hDk; intro sti dta1 dts1 hDk hs0 hs1
  refine hW _ ?_; clear hW; intro o1 o2 o3 o4 o5 o6 o7 o8 hW
  k_fill
  refine' spec_enter (binds := [(Str.ofString "deck", .ref dk), (Str.ofString "cursor", .ref cu), (Str.ofString "own", .ref ow)]) ?ko ?kcd ?kb ?kl ?k1 ?_ ?kc ?c1 ?c2 ?c3
  (case ko => k_dflt k_is)
  (case kcd => k_dflt k_is)
  (case c1 => rfl)
  (case c2 => rfl)
  (case c3 => rfl)
  (case kb => (intro s hX; first | exact BindsTo.of_eq rfl | (k_dflt (refine' binds_K hX ?b1 ?b2 ?b3 ?b4 ?b5; (case b1 => exact rfl); (case b2 => k_is); (case b3 => exact rfl); (case b4 => exact rfl); (case b5 => exact rfl)))))
  (case kl => exact locs rfl)
  (case k1 => decide)
  (case kc => decide)
  intro p loose mean mg mb dp un gd outer A₀ base g s L' h₁ hd hu B F N X T
  (try dsimp only)
  (try k_fold)
  k_steps
  all_goals (try dsimp only); (try k_unfold); (try dsimp only)
  all_goals walk_at "e-wait"
set_option maxRecDepth 100000 in
set_option maxHeartbeats 2000000 in
theorem lsetm_spec {w : World} {dk lc : Addr} {oD : Obj} {ys : List Value} {ns : List Int} {a : Int} {ow : Addr} {oW : Obj} {rows cols top left bottom right row col : Int} {wait org : Bool} {ol : Addr} {cu dcu : Addr} {cc : CK} {r0 x0 wt : Value} {ma dma : Addr} {mc : MK} {m1 m2 m3 m4 m5 m6 : Tok} (hn : Dist [dk, lc, ow, cu, dcu, ma, dma]) (hDk : DeckIs w oD lc a) (hI : IntsAre ys ns) (hL : ns.length ≤ 48) (ha0 : 0 ≤ a) (ha1 : a < 900000) (hW : OwnIs w oW rows cols top left bottom right row col wait org ol)
    (hr : 2 ≤ rows) (hr2 : rows < 100) (hc : 3 ≤ cols) (hc2 : cols < 100) :
    Spec PySem.Challenge.rw_og0257_01.row.prog w (hd.heap_1 w.params) 9 420 [.ref dk, .ref cu, .ref ma, .ref ow] [(dk, oD), (lc, LCg.lst ys), (ow, oW), (cu, instObj 74 dcu), (dcu, curD cc r0 x0 wt (.bool org)), (ma, instObj 207 dma), (dma, marD mc (.int rows m1) (.int cols m2) (.int top m3) (.int bottom m4) (.int left m5) (.int right m6))]
      (Cps fun G => ∀ (oD' : Obj) (a' : Int) (oW' : Obj) (top' : Int) (left' : Int) (bottom' : Int) (right' : Int) (t1 : Tok) (t2 : Tok) (m1 : Tok) (m2 : Tok) (m3 : Tok) (m4 : Tok) (m5 : Tok) (m6 : Tok), (DeckIs w oD' lc a') → (a ≤ a') → (a' ≤ a + 4) → (OwnIs w oW' rows cols top' left' bottom' right' (if org then top' else 0) (if org then left' else 0) wait org ol) → (0 ≤ top') → (top' < bottom') → (bottom' < rows) → (0 ≤ left') → (left' < right') → (right' < cols) → G (.bool true) [(dk, oD'), (lc, LCg.lst ys), (ow, oW'), (cu, instObj 74 dcu), (dcu, curD cc (.int (if org then top' else 0) t1) (.int (if org then left' else 0) t2) (.bool false) (.bool org)), (ma, instObj 207 dma), (dma, marD mc (.int rows m1) (.int cols m2) (.int top' m3) (.int bottom' m4) (.int left' m5) (.int right' m6))]) := by
  k_with_none
  (k_with "call ref" => (k_here; k_dflt ( (with_reducible show wpAny _ _ (call (Value.ref 387) _ _) _ _ _); refine' spec_callC (as := [_, _]) (draw_spec  ?hne ?hDk ?hI ?hl2 ?ha0 ?ha1 ?hs0 ?hs1 ?hb0 ?hb1) ?B ?F ?X ?T ?N ?hA ?hh ?hf ?hk (sub_cons ?m1 (sub_cons ?m2 sub_nil)) ?has ?hrest ?hd ?hu ?_; walk_at "sp-a"; walk_at "sp-m1"; (case hDk => k_asm); walk_at "sp-m2"; (case hne => walk_at "sp-ne"); (case hI => l_ints); (case hl2 => walk_at "sp-len"); (case ha0 => walk_at "sp-om"); (case ha1 => walk_at "sp-om"); (case hs0 => walk_at "sp-om"); (case hs1 => walk_at "sp-om"); (case hb0 => walk_at "sp-om"); (case hb1 => walk_at "sp-om"); walk_at "sp-z"; intro r' t' oD' st' ta' ts' hr0' hr1' hD' hs0' hs1' h' tk' hO' F' N'; walk_at "sp-n")))
  (k_with "call ref" => (k_here; k_dflt ( (with_reducible show wpAny _ _ (call (Value.ref 57) _ _) _ _ _); refine' spec_callC (as := [_, _]) (go_spec  ?hne) ?B ?F ?X ?T ?N ?hA ?hh ?hf ?hk (sub_cons ?m1 (sub_cons ?m2 sub_nil)) ?has ?hrest ?hd ?hu ?_; walk_at "sp-a"; walk_at "sp-m1"; walk_at "sp-m2"; (case hne => walk_at "sp-ne"); walk_at "sp-z"; intro  h' tk' hO' F' N'; walk_at "sp-n")))
  (k_with "call ref" => (k_here; k_dflt ( (with_reducible show wpAny _ _ (call (Value.ref 253) _ _) _ _ _); refine' spec_callC (as := [_, _, _, _]) (homed_spec  ?hn ?hr ?hc ?h1 ?h2) ?B ?F ?X ?T ?N ?hA ?hh ?hf ?hk (sub_cons ?m1 (sub_cons ?m2 (sub_cons ?m3 (sub_cons ?m4 sub_nil)))) ?has ?hrest ?hd ?hu ?_; walk_at "sp-a"; walk_at "sp-m1"; walk_at "sp-m2"; walk_at "sp-m3"; walk_at "sp-m4"; (case hn => walk_at "sp-dist"); (case hr => walk_at "sp-om"); (case hc => walk_at "sp-om"); (case h1 => walk_at "sp-om"); (case h2 => walk_at "sp-om"); walk_at "sp-z"; intro t1' t2' h' tk' hO' F' N'; walk_at "sp-n")))
  (k_with "call ref" => (k_here; k_dflt ( (with_reducible show wpAny _ _ (call (Value.ref 394) _ _) _ _ _); refine' spec_callC (as := [_]) (home_spec  ?hW) ?B ?F ?X ?T ?N ?hA ?hh ?hf ?hk (sub_cons ?m1 sub_nil) ?has ?hrest ?hd ?hu ?_; walk_at "sp-a"; walk_at "sp-m1"; (case hW => exact own_mk (by k_asm) rfl rfl rfl rfl rfl rfl rfl rfl); walk_at "sp-z"; intro oW' hW' h' tk' hO' F' N'; walk_at "sp-ow"; walk_at "sp-n")))
  (k_with "e-setm" => (refine' SpecEnd.introC ((_, _) :: (_, _) :: (_, _) :: (_, _) :: (_, curD _ (.int _ _) (.int _ _) _ _) :: (_, _) :: [(_, marD _ (.int _ _) (.int _ _) (.int _ _) (.int _ _) (.int _ _) (.int _ _))]) ?F ?N ?hs (congrArg Value.bool ?vv) rfl (fun _ k => k _ _ _ _ _ _ _ _ _ _ _ _ _ _ _ (deck_mk ?hDk ?i1 ?i2 rfl) ?i3 ?i4 (own_mk ?hW rfl rfl rfl rfl rfl rfl rfl rfl) ?i5 ?i6 ?i7 ?i8 ?i9 ?ia); walk_at "sp-e"; (case vv => (rw [decide_eq_true (by walk_at "sp-om"), decide_eq_true (by walk_at "sp-om")]; rfl)); walk_at "sp-hDk"; walk_at "sp-hW"; walk_at "sp-i1"; walk_at "sp-i2"; walk_at "sp-i3"; walk_at "sp-i4"; (case i5 => walk_at "sp-om"); (case i6 => walk_at "sp-om"); (case i7 => walk_at "sp-om"); (case i8 => walk_at "sp-om"); (case i9 => walk_at "sp-om"); (case ia => walk_at "sp-om")))
  have n1 := And.left hn
  have n2 := And.left (And.right hn)
  have n3 := And.left (And.right (And.right hn))
  have n4 := And.left (And.right (And.right (And.right hn)))
  have n5 := And.left (And.right (And.right (And.right (And.right hn))))
  have n6 := And.left (And.right (And.right (And.right (And.right (And.right hn)))))
  clear hn
  refine hDk _ ?_; clear hDk; intro sti dta1 dts1 hDk hs0 hs1
  refine hW _ ?_; clear hW; intro o1 o2 o3 o4 o5 o6 o7 o8 hW
  k_fill
  refine' spec_enter (binds := [(Str.ofString "deck", .ref dk), (Str.ofString "cursor", .ref cu), (Str.ofString "margins", .ref ma), (Str.ofString "own", .ref ow)]) ?ko ?kcd ?kb ?kl ?k1 ?_ ?kc ?c1 ?c2 ?c3
  (case ko => k_dflt k_is)
  (case kcd => k_dflt k_is)
  (case c1 => rfl)
  (case c2 => rfl)
  (case c3 => rfl)
  (case kb => (intro s hX; first | exact BindsTo.of_eq rfl | (k_dflt (refine' binds_K hX ?b1 ?b2 ?b3 ?b4 ?b5; (case b1 => exact rfl); (case b2 => k_is); (case b3 => exact rfl); (case b4 => exact rfl); (case b5 => exact rfl)))))
  (case kl => exact locs rfl)
  (case k1 => decide)
  (case kc => decide)
  intro p loose mean mg mb dp un gd outer A₀ base g s L' h₁ hd hu B F N X T
  (try dsimp only)
  (try k_fold)
  k_steps
  all_goals (try dsimp only); (try k_unfold); (try dsimp only)
  all_goals walk_at "e-setm"
end
section
local macro_rules | `(tactic| walk_at "compareOp NotIn int ref") => `(tactic| (k_here; k_dflt (refine' notin_keys ?N ?m ?d ?lo ?_; (case N => k_asm); (case m => k_mem); (case d => k_asm); (case lo => k_asm); k_whole)))
def NextJ (m₀ : Str → Option Value) (led : Led) (ks : List Int) (x most : Int) (n : Nat) (m₁ : Str → Option Value) (news₁ : Led) : Prop :=
  ∃ y ty, m₁ = (fun z => if z = (Str.ofString "found") then some (.int y ty) else m₀ z) ∧ news₁ = led ∧ n = (most - y).toNat ∧ x < y ∧ ∀ k ∈ ks, x < k → k < most → y ≤ k
def IsNext (ks : List Int) (x most r : Int) : Prop :=
  (x < most → x < r ∧ r ≤ most ∧ (r = most ∨ r ∈ ks) ∧ ∀ k ∈ ks, x < k → k < most → r ≤ k) ∧ (¬ x < most → r = x)
theorem next_mem {ks : List Int} {x most y : Int} (hy : x < y) (hl : y < most) (hm : y ∈ ks) (hk : ∀ k ∈ ks, x < k → k < most → y ≤ k) : IsNext ks x most (if most < y then most else y) := by
  rw [if_neg (by omega)]
  exact ⟨fun _ => ⟨hy, by omega, .inr hm, hk⟩, fun h => by omega⟩
theorem next_far {ks : List Int} {x most y : Int} (hy : x < y) (hl : ¬ y < most) (hx : x < most) (hk : ∀ k ∈ ks, x < k → k < most → y ≤ k) : IsNext ks x most (if most < y then most else y) := by
  have e : (if most < y then most else y) = most := by split <;> omega
  rw [e]
  exact ⟨fun _ => ⟨hx, by omega, .inl rfl, fun k h1 h2 h3 => by have := hk k h1 h2 h3; omega⟩, fun h => by omega⟩
theorem next_none {ks : List Int} {x most : Int} (hx : ¬ x < most) : IsNext ks x most x := ⟨fun h => absurd h hx, fun _ => rfl⟩
theorem nextJ_step {g : Heap} {L : Addr} {s : Shared} {h' : Heap} {tk : Nat} {Q : Flow → Shared → Prop} {m₀ : Str → Option Value} {led : Led} {ks : List Int} {x most y : Int} {ty t : Tok}
    (F : Fr g L h' (fun z => if z = (Str.ofString "found") then some (.int (y + 1) t) else if z = (Str.ofString "found") then some (.int y ty) else m₀ z)) (N : News g L h' led)
    (hy : x < y) (hl : y < most) (hm : y ∉ ks) (hk : ∀ k ∈ ks, x < k → k < most → y ≤ k) :
    WhileStep2 g L s (NextJ m₀ led ks x most) Q (most - y).toNat .next { s with heap := h', toks := tk } := by
  refine ⟨h', tk, _, led, (most - (y + 1)).toNat, rfl, F, N, by omega, y + 1, t, ?_, rfl, rfl, by omega, fun k h1 h2 h3 => ?_⟩
  · funext z; split <;> rfl
  · have := hk k h1 h2 h3
    have : k ≠ y := fun e => hm (e ▸ h1)
    omega
local macro_rules | `(tactic| walk_at "exec While BoolOp") => `(tactic| (k_here; refine Hold.out ?_))
set_option maxRecDepth 100000 in
set_option maxHeartbeats 2000000 in
theorem next_spec {w : World} {ta dta st : Addr} {tc : TK} {cols : Int} {tq : Tok} {oS : Obj} {ks : List Int} {x most : Int} {tx tm : Tok} (hn : Dist [ta, dta, st]) (hS : Keys w oS ks) (hlo : (st == sysModules) = false) :
    Spec PySem.Challenge.rw_og0257_01.row.prog w (hd.heap_1 w.params) 3 337 [.ref ta, .int x tx, .int most tm] [(ta, instObj 362 dta), (dta, tabD tc (.int cols tq) (.ref st)), (st, oS)]
      (Cps fun G => ∀ (r : Int) (t : Tok), (IsNext ks x most r) → G (.int r t) [(ta, instObj 362 dta), (dta, tabD tc (.int cols tq) (.ref st)), (st, oS)]) := by
  k_with_none
  (k_with "e-nextJ" => ((try simp only [decide_eq_true_eq, decide_eq_false_iff_not, Bool.not_eq_true, Bool.not_eq_false, Bool.not_eq_true', Bool.not_eq_false', not_not] at *); exact nextJ_step (by assumption) (by assumption) (by assumption) (by assumption) (by assumption) (by assumption)))
  (k_with "e-next" => (refine' SpecEnd.introC [(_, _), (_, _), (_, _)] ?F ?N ?hs rfl rfl (fun _ k => k _ _ ?e); walk_at "sp-e"; (case e => ((try simp only [decide_eq_true_eq, decide_eq_false_iff_not, Bool.not_eq_true, Bool.not_eq_false, Bool.not_eq_true', Bool.not_eq_false', not_not] at *); first | exact next_none (by assumption) | exact next_mem (by assumption) (by assumption) (by assumption) (by assumption) | exact next_far (by assumption) (by assumption) (by assumption) (by assumption) | exact next_far (by assumption) (by assumption) (by walk_at "sp-om") (by assumption)))))
  have n1 := And.left hn
  have n2 := And.left (And.right hn)
  clear hn
  k_fill
  refine' spec_enter (binds := [(Str.ofString "self", .ref ta), (Str.ofString "column", .int x tx), (Str.ofString "most", .int most tm)]) ?ko ?kcd ?kb ?kl ?k1 ?_ ?kc ?c1 ?c2 ?c3
  (case ko => k_dflt k_is)
  (case kcd => k_dflt k_is)
  (case c1 => rfl)
  (case c2 => rfl)
  (case c3 => rfl)
  (case kb => (intro s hX; first | exact BindsTo.of_eq rfl | (k_dflt (refine' binds_K hX ?b1 ?b2 ?b3 ?b4 ?b5; (case b1 => exact rfl); (case b2 => k_is); (case b3 => exact rfl); (case b4 => exact rfl); (case b5 => exact rfl)))))
  (case kl => exact locs rfl)
  (case k1 => decide)
  (case kc => decide)
  intro p loose mean mg mb dp un gd outer A₀ base g s L' h₁ hd hu B F N X T
  (try dsimp only)
  (try k_fold)
  k_steps
  rename Fr _ _ _ _ => F'
  rename News _ _ _ _ => N'
  refine While_inv2 (NextJ _ _ ks x most) F' N' ⟨x + 1, _, rfl, rfl, rfl, by omega, fun k _ h _ => h⟩ ?_ PassesOwn.never
  clear F' N'
  rintro n₁ m₁ news₁ h₁ tk₁ F₁ N₁ ⟨y, ty, rfl, rfl, rfl, hy, hk⟩
  all_goals (try k_fold)
  k_steps
  all_goals (try dsimp only); (try k_unfold); (try dsimp only)
  all_goals first | walk_at "e-next" | walk_at "e-nextJ" | trace_state
end
section
local macro_rules | `(tactic| walk_at "no key 0") => `(tactic| skip)
local macro_rules | `(tactic| walk_at "compareOp NotIn int ref") => `(tactic| (k_here; k_dflt (refine' notin_keys ?N ?m ?d ?lo ?_; (case N => k_asm); (case m => k_mem); (case d => k_asm); (case lo => k_asm); k_whole)))
def BackJ (m₀ : Str → Option Value) (led : Led) (ks : List Int) (x least : Int) (n : Nat) (m₁ : Str → Option Value) (news₁ : Led) : Prop :=
  ∃ y ty, m₁ = (fun z => if z = (Str.ofString "found") then some (.int y ty) else m₀ z) ∧ news₁ = led ∧ n = (y - least).toNat ∧ y < x ∧ ∀ k ∈ ks, least < k → k < x → k ≤ y
def IsBack (ks : List Int) (x least r : Int) : Prop :=
  (x > least → r < x ∧ least ≤ r ∧ (r = least ∨ r ∈ ks) ∧ ∀ k ∈ ks, least < k → k < x → k ≤ r) ∧ (¬ x > least → r = x)
theorem back_mem {ks : List Int} {x least y : Int} (hy : y < x) (hl : y > least) (hm : y ∈ ks) (hk : ∀ k ∈ ks, least < k → k < x → k ≤ y) : IsBack ks x least (if least > y then least else y) := by
  rw [if_neg (by omega)]
  exact ⟨fun _ => ⟨hy, by omega, .inr hm, hk⟩, fun h => by omega⟩
theorem back_far {ks : List Int} {x least y : Int} (hy : y < x) (hl : ¬ y > least) (hx : x > least) (hk : ∀ k ∈ ks, least < k → k < x → k ≤ y) : IsBack ks x least (if least > y then least else y) := by
  have e : (if least > y then least else y) = least := by split <;> omega
  rw [e]
  exact ⟨fun _ => ⟨hx, by omega, .inl rfl, fun k h1 h2 h3 => by have := hk k h1 h2 h3; omega⟩, fun h => by omega⟩
theorem back_none {ks : List Int} {x least : Int} (hx : ¬ x > least) : IsBack ks x least x := ⟨fun h => absurd h hx, fun _ => rfl⟩
theorem backJ_step {g : Heap} {L : Addr} {s : Shared} {h' : Heap} {tk : Nat} {Q : Flow → Shared → Prop} {m₀ : Str → Option Value} {led : Led} {ks : List Int} {x least y : Int} {ty t : Tok}
    (F : Fr g L h' (fun z => if z = (Str.ofString "found") then some (.int (y - 1) t) else if z = (Str.ofString "found") then some (.int y ty) else m₀ z)) (N : News g L h' led)
    (hy : y < x) (hl : y > least) (hm : y ∉ ks) (hk : ∀ k ∈ ks, least < k → k < x → k ≤ y) :
    WhileStep2 g L s (BackJ m₀ led ks x least) Q (y - least).toNat .next { s with heap := h', toks := tk } := by
  refine ⟨h', tk, _, led, (y - 1 - least).toNat, rfl, F, N, by omega, y - 1, t, ?_, rfl, rfl, by omega, fun k h1 h2 h3 => ?_⟩
  · funext z; split <;> rfl
  · have := hk k h1 h2 h3
    have : k ≠ y := fun e => hm (e ▸ h1)
    omega
local macro_rules | `(tactic| walk_at "exec While BoolOp") => `(tactic| (k_here; refine Hold.out ?_))
set_option maxRecDepth 100000 in
set_option maxHeartbeats 2000000 in
theorem back_spec {w : World} {ta dta st : Addr} {tc : TK} {cols : Int} {tq : Tok} {oS : Obj} {ks : List Int} {x least : Int} {tx tm : Tok} (hn : Dist [ta, dta, st]) (hS : Keys w oS ks) (hlo : (st == sysModules) = false) :
    Spec PySem.Challenge.rw_og0257_01.row.prog w (hd.heap_1 w.params) 3 345 [.ref ta, .int x tx, .int least tm] [(ta, instObj 362 dta), (dta, tabD tc (.int cols tq) (.ref st)), (st, oS)]
      (Cps fun G => ∀ (r : Int) (t : Tok), (IsBack ks x least r) → G (.int r t) [(ta, instObj 362 dta), (dta, tabD tc (.int cols tq) (.ref st)), (st, oS)]) := by
  k_with_none
  (k_with "e-backJ" => ((try simp only [decide_eq_true_eq, decide_eq_false_iff_not, Bool.not_eq_true, Bool.not_eq_false, Bool.not_eq_true', Bool.not_eq_false', not_not] at *); exact backJ_step (by assumption) (by assumption) (by assumption) (by assumption) (by assumption) (by assumption)))
  (k_with "e-back" => (refine' SpecEnd.introC [(_, _), (_, _), (_, _)] ?F ?N ?hs rfl rfl (fun _ k => k _ _ ?e); walk_at "sp-e"; (case e => ((try simp only [decide_eq_true_eq, decide_eq_false_iff_not, Bool.not_eq_true, Bool.not_eq_false, Bool.not_eq_true', Bool.not_eq_false', not_not] at *); first | exact back_none (by assumption) | exact back_mem (by assumption) (by assumption) (by assumption) (by assumption) | exact back_far (by assumption) (by assumption) (by assumption) (by assumption) | exact back_far (by assumption) (by assumption) (by walk_at "sp-om") (by assumption)))))
  have n1 := And.left hn
  have n2 := And.left (And.right hn)
  clear hn
  k_fill
  refine' spec_enter (binds := [(Str.ofString "self", .ref ta), (Str.ofString "column", .int x tx), (Str.ofString "least", .int least tm)]) ?ko ?kcd ?kb ?kl ?k1 ?_ ?kc ?c1 ?c2 ?c3
  (case ko => k_dflt k_is)
  (case kcd => k_dflt k_is)
  (case c1 => rfl)
  (case c2 => rfl)
  (case c3 => rfl)
  (case kb => (intro s hX; first | exact BindsTo.of_eq rfl | (k_dflt (refine' binds_K hX ?b1 ?b2 ?b3 ?b4 ?b5; (case b1 => exact rfl); (case b2 => k_is); (case b3 => exact rfl); (case b4 => exact rfl); (case b5 => exact rfl)))))
  (case kl => exact locs rfl)
  (case k1 => decide)
  (case kc => decide)
  intro p loose mean mg mb dp un gd outer A₀ base g s L' h₁ hd hu B F N X T
  (try dsimp only)
  (try k_fold)
  k_steps
  rename Fr _ _ _ _ => F'
  rename News _ _ _ _ => N'
  refine While_inv2 (BackJ _ _ ks x least) F' N' ⟨x - 1, _, rfl, rfl, rfl, by omega, fun k _ _ h => by omega⟩ ?_ PassesOwn.never
  clear F' N'
  rintro n₁ m₁ news₁ h₁ tk₁ F₁ N₁ ⟨y, ty, rfl, rfl, rfl, hy, hk⟩
  all_goals (try k_fold)
  k_steps
  all_goals (try dsimp only); (try k_unfold); (try dsimp only)
  all_goals first | walk_at "e-back" | walk_at "e-backJ" | trace_state
end
section
local macro_rules | `(tactic| walk_at "pyIter ref") => `(tactic| (k_here; refine Hold.out ?_))
def NextN (ks : List Int) (most : Int) : Nat → Int → Int → Prop
  | 0, x, r => r = x
  | n + 1, x, r => ∃ y, NextN ks most n x y ∧ IsNext ks y most r
def BackN (ks : List Int) (least : Int) : Nat → Int → Int → Prop
  | 0, x, r => r = x
  | n + 1, x, r => ∃ y, BackN ks least n x y ∧ IsBack ks y least r
def TabJ (m₀ : Str → Option Value) (led : Led) (P : Nat → Int → Prop) (i : Nat) (G : MLed) : Prop :=
  ∀ (y : Int) (ty : Tok) (u : Option Value), P i y → G (fun z => if z = (Str.ofString "column") then some (.int y ty) else if z = (Str.ofString "turn") then u else m₀ z) led
theorem tabJ_mk {m₀ m : Str → Option Value} {led : Led} {P : Nat → Int → Prop} {i : Nat} {y : Int} {ty : Tok} {u : Option Value} (e : m = (fun z => if z = (Str.ofString "column") then some (.int y ty) else if z = (Str.ofString "turn") then u else m₀ z)) (h : P i y) : ∀ G : MLed, TabJ m₀ led P i G → G m led := by subst e; exact fun _ k => k _ _ _ h
set_option maxRecDepth 100000 in
set_option maxHeartbeats 2000000 in
theorem tabbed_spec (w : World) (cu dcu : Addr) (cc : CK) (r x : Int) (tr tx : Tok) (wt og : Value) (ma dma : Addr) (mc : MK) (rows top bottom left right : Int) (m1 m2 m3 m4 m5 m6 : Tok) (ta dta st : Addr) (tc : TK) (cols : Int) (tq : Tok) (oS : Obj) (ks : List Int) (n : Nat) (tn : Tok) (hn : Dist [cu, dcu, ma, dma, ta, dta, st]) (hS : Keys w oS ks) (hlo : (st == sysModules) = false)
    (h2 : n ≤ 3) (h3 : 3 ≤ cols) :
    Spec PySem.Challenge.rw_og0257_01.row.prog w (hd.heap_1 w.params) 4 373 [.ref cu, .ref ma, .ref ta, .int n tn] [(cu, instObj 74 dcu), (dcu, curD cc (.int r tr) (.int x tx) wt og), (ma, instObj 207 dma), (dma, marD mc (.int rows m1) (.int cols m2) (.int top m3) (.int bottom m4) (.int left m5) (.int right m6)), (ta, instObj 362 dta), (dta, tabD tc (.int cols tq) (.ref st)), (st, oS)]
      (Cps fun G => ∀ (x' : Int) (t1 : Tok) (t2 : Tok), (NextN ks (lst0 right cols x) n x x') → G .none [(cu, instObj 74 dcu), (dcu, curD cc (.int r t1) (.int x' t2) (.bool false) og), (ma, instObj 207 dma), (dma, marD mc (.int rows m1) (.int cols m2) (.int top m3) (.int bottom m4) (.int left m5) (.int right m6)), (ta, instObj 362 dta), (dta, tabD tc (.int cols tq) (.ref st)), (st, oS)]) := by
  k_with_none
  (k_with "call ref" => (k_here; k_dflt ( (with_reducible show wpAny _ _ (call (Value.ref 57) _ _) _ _ _); refine' spec_callC (as := [_, _]) (go_spec  ?hne) ?B ?F ?X ?T ?N ?hA ?hh ?hf ?hk (sub_cons ?m1 (sub_cons ?m2 sub_nil)) ?has ?hrest ?hd ?hu ?_; walk_at "sp-a"; walk_at "sp-m1"; walk_at "sp-m2"; (case hne => walk_at "sp-ne"); walk_at "sp-z"; intro  h' tk' hO' F' N'; walk_at "sp-n")))
  (k_with "call ref" => (k_here; k_dflt ( (with_reducible show wpAny _ _ (call (Value.ref 197) _ _) _ _ _); refine' spec_callC (as := [_, _]) (last_column_spec  ?hne) ?B ?F ?X ?T ?N ?hA ?hh ?hf ?hk (sub_cons ?m1 (sub_cons ?m2 sub_nil)) ?has ?hrest ?hd ?hu ?_; walk_at "sp-a"; walk_at "sp-m1"; walk_at "sp-m2"; (case hne => walk_at "sp-ne"); walk_at "sp-z"; intro t' h' tk' hO' F' N'; walk_at "sp-n")))
  (k_with "call ref" => (k_here; k_dflt ( (with_reducible show wpAny _ _ (call (Value.ref 337) _ _) _ _ _); refine' spec_callC (as := [_, _, _]) (next_spec  ?hn ?hS ?hlo) ?B ?F ?X ?T ?N ?hA ?hh ?hf ?hk (sub_cons ?m1 (sub_cons ?m2 (sub_cons ?m3 sub_nil))) ?has ?hrest ?hd ?hu ?_; walk_at "sp-a"; walk_at "sp-m1"; walk_at "sp-m2"; walk_at "sp-m3"; (case hS => k_asm); (case hlo => k_asm); (case hn => walk_at "sp-dist"); walk_at "sp-z"; intro r' t' hx' h' tk' hO' F' N'; walk_at "sp-n")))
  (k_with "call ref" => (k_here; k_dflt ( (with_reducible show wpAny _ _ (call (Value.ref 345) _ _) _ _ _); refine' spec_callC (as := [_, _, _]) (back_spec  ?hn ?hS ?hlo) ?B ?F ?X ?T ?N ?hA ?hh ?hf ?hk (sub_cons ?m1 (sub_cons ?m2 (sub_cons ?m3 sub_nil))) ?has ?hrest ?hd ?hu ?_; walk_at "sp-a"; walk_at "sp-m1"; walk_at "sp-m2"; walk_at "sp-m3"; (case hS => k_asm); (case hlo => k_asm); (case hn => walk_at "sp-dist"); walk_at "sp-z"; intro r' t' hx' h' tk' hO' F' N'; walk_at "sp-n")))
  (k_with "e-tab" => (refine' SpecEnd.introC ((_, _) :: (_, curD _ (.int _ _) (.int _ _) _ _) :: (_, _) :: (_, _) :: (_, _) :: (_, _) :: [(_, _)]) ?F ?N ?hs rfl rfl (fun _ k => k _ _ _ ?e); walk_at "sp-e"; (case e => assumption)))
  (k_with "e-tabturn" => ( refine' TurnEnd.intro ((_, _) :: (_, _) :: (_, _) :: (_, _) :: (_, _) :: (_, _) :: [(_, _)]) ?F ?N ?hi ?hs ?hn (tabJ_mk ?e1 ⟨_, ?e2, ?e3⟩); (case F => assumption); (case N => assumption); (case hi => k_mem); (case e1 => exact bind_again _ _ _ _ _ _ _); (case hn => assumption); (case e2 => assumption); (case e3 => assumption); (case hs => walk_at "sp-sub")))
  have n1 := And.left hn
  have n2 := And.left (And.right hn)
  have n3 := And.left (And.right (And.right hn))
  have n4 := And.left (And.right (And.right (And.right hn)))
  have n5 := And.left (And.right (And.right (And.right (And.right hn))))
  have n6 := And.left (And.right (And.right (And.right (And.right (And.right hn)))))
  clear hn
  k_fill
  refine' spec_enter (binds := [(Str.ofString "cursor", .ref cu), (Str.ofString "margins", .ref ma), (Str.ofString "tabs", .ref ta), (Str.ofString "many", .int n tn)]) ?ko ?kcd ?kb ?kl ?k1 ?_ ?kc ?c1 ?c2 ?c3
  (case ko => k_dflt k_is)
  (case kcd => k_dflt k_is)
  (case c1 => rfl)
  (case c2 => rfl)
  (case c3 => rfl)
  (case kb => (intro s hX; first | exact BindsTo.of_eq rfl | (k_dflt (refine' binds_K hX ?b1 ?b2 ?b3 ?b4 ?b5; (case b1 => exact rfl); (case b2 => k_is); (case b3 => exact rfl); (case b4 => exact rfl); (case b5 => exact rfl)))))
  (case kl => exact locs rfl)
  (case k1 => decide)
  (case kc => decide)
  intro p loose mean mg mb dp un gd outer A₀ base g s L' h₁ hd hu B F N X T
  (try dsimp only)
  (try k_fold)
  k_steps
  rename IsRange _ _ _ _ _ _ _ _ => hR
  rename Fr _ _ _ _ => F'
  rename News _ _ _ _ => N'
  rw [if_neg (by omega)] at hR
  refine range_loopC (n := n) (TabJ _ _ (fun i y => NextN ks (lst0 right cols x) i x y)) rfl hR (small_one (by omega) (by omega) (by omega) (by omega)) (by rw [rangeSize_one]; split <;> omega) F' N' (tabJ_mk (bind_skip _ _ _ _) rfl) ?_ ?_
  all_goals clear F' N'
  · intro i t h tk I it hi y ty u hy hI F₁ N₁
    dsimp only [List.map] at hI
    (try dsimp only)
    (try k_fold)
    k_steps
    all_goals (try dsimp only); (try k_unfold); (try dsimp only)
    all_goals walk_at "e-tabturn"
  · intro h tk y ty u hy F₁ N₁
    (try dsimp only)
    (try k_fold)
    k_steps
    all_goals (try dsimp only); (try k_unfold); (try dsimp only)
    all_goals walk_at "e-tab"
set_option maxRecDepth 100000 in
set_option maxHeartbeats 2000000 in
theorem tabback_true (w : World) (cu dcu : Addr) (cc : CK) (r x : Int) (tr tx : Tok) (wt : Value) (ma dma : Addr) (mc : MK) (rows top bottom left right : Int) (m1 m2 m3 m4 m5 m6 : Tok) (ta dta st : Addr) (tc : TK) (cols : Int) (tq : Tok) (oS : Obj) (ks : List Int) (n : Nat) (tn : Tok) (hn : Dist [cu, dcu, ma, dma, ta, dta, st]) (hS : Keys w oS ks) (hlo : (st == sysModules) = false)
    (h2 : n ≤ 3) (h3 : 3 ≤ cols) :
    Spec PySem.Challenge.rw_og0257_01.row.prog w (hd.heap_1 w.params) 4 380 [.ref cu, .ref ma, .ref ta, .int n tn] [(cu, instObj 74 dcu), (dcu, curD cc (.int r tr) (.int x tx) wt (.bool true)), (ma, instObj 207 dma), (dma, marD mc (.int rows m1) (.int cols m2) (.int top m3) (.int bottom m4) (.int left m5) (.int right m6)), (ta, instObj 362 dta), (dta, tabD tc (.int cols tq) (.ref st)), (st, oS)]
      (Cps fun G => ∀ (x' : Int) (t1 : Tok) (t2 : Tok), (BackN ks left n x x') → G .none [(cu, instObj 74 dcu), (dcu, curD cc (.int r t1) (.int x' t2) (.bool false) (.bool true)), (ma, instObj 207 dma), (dma, marD mc (.int rows m1) (.int cols m2) (.int top m3) (.int bottom m4) (.int left m5) (.int right m6)), (ta, instObj 362 dta), (dta, tabD tc (.int cols tq) (.ref st)), (st, oS)]) := by
  k_with_none
  (k_with "call ref" => (k_here; k_dflt ( (with_reducible show wpAny _ _ (call (Value.ref 57) _ _) _ _ _); refine' spec_callC (as := [_, _]) (go_spec  ?hne) ?B ?F ?X ?T ?N ?hA ?hh ?hf ?hk (sub_cons ?m1 (sub_cons ?m2 sub_nil)) ?has ?hrest ?hd ?hu ?_; walk_at "sp-a"; walk_at "sp-m1"; walk_at "sp-m2"; (case hne => walk_at "sp-ne"); walk_at "sp-z"; intro  h' tk' hO' F' N'; walk_at "sp-n")))
  (k_with "call ref" => (k_here; k_dflt ( (with_reducible show wpAny _ _ (call (Value.ref 197) _ _) _ _ _); refine' spec_callC (as := [_, _]) (last_column_spec  ?hne) ?B ?F ?X ?T ?N ?hA ?hh ?hf ?hk (sub_cons ?m1 (sub_cons ?m2 sub_nil)) ?has ?hrest ?hd ?hu ?_; walk_at "sp-a"; walk_at "sp-m1"; walk_at "sp-m2"; (case hne => walk_at "sp-ne"); walk_at "sp-z"; intro t' h' tk' hO' F' N'; walk_at "sp-n")))
  (k_with "call ref" => (k_here; k_dflt ( (with_reducible show wpAny _ _ (call (Value.ref 337) _ _) _ _ _); refine' spec_callC (as := [_, _, _]) (next_spec  ?hn ?hS ?hlo) ?B ?F ?X ?T ?N ?hA ?hh ?hf ?hk (sub_cons ?m1 (sub_cons ?m2 (sub_cons ?m3 sub_nil))) ?has ?hrest ?hd ?hu ?_; walk_at "sp-a"; walk_at "sp-m1"; walk_at "sp-m2"; walk_at "sp-m3"; (case hS => k_asm); (case hlo => k_asm); (case hn => walk_at "sp-dist"); walk_at "sp-z"; intro r' t' hx' h' tk' hO' F' N'; walk_at "sp-n")))
  (k_with "call ref" => (k_here; k_dflt ( (with_reducible show wpAny _ _ (call (Value.ref 345) _ _) _ _ _); refine' spec_callC (as := [_, _, _]) (back_spec  ?hn ?hS ?hlo) ?B ?F ?X ?T ?N ?hA ?hh ?hf ?hk (sub_cons ?m1 (sub_cons ?m2 (sub_cons ?m3 sub_nil))) ?has ?hrest ?hd ?hu ?_; walk_at "sp-a"; walk_at "sp-m1"; walk_at "sp-m2"; walk_at "sp-m3"; (case hS => k_asm); (case hlo => k_asm); (case hn => walk_at "sp-dist"); walk_at "sp-z"; intro r' t' hx' h' tk' hO' F' N'; walk_at "sp-n")))
  (k_with "e-tab" => (refine' SpecEnd.introC ((_, _) :: (_, curD _ (.int _ _) (.int _ _) _ _) :: (_, _) :: (_, _) :: (_, _) :: (_, _) :: [(_, _)]) ?F ?N ?hs rfl rfl (fun _ k => k _ _ _ ?e); walk_at "sp-e"; (case e => assumption)))
  (k_with "e-tabturn" => ( refine' TurnEnd.intro ((_, _) :: (_, _) :: (_, _) :: (_, _) :: (_, _) :: (_, _) :: [(_, _)]) ?F ?N ?hi ?hs ?hn (tabJ_mk ?e1 ⟨_, ?e2, ?e3⟩); (case F => assumption); (case N => assumption); (case hi => k_mem); (case e1 => exact bind_again _ _ _ _ _ _ _); (case hn => assumption); (case e2 => assumption); (case e3 => assumption); (case hs => walk_at "sp-sub")))
  have n1 := And.left hn
  have n2 := And.left (And.right hn)
  have n3 := And.left (And.right (And.right hn))
  have n4 := And.left (And.right (And.right (And.right hn)))
  have n5 := And.left (And.right (And.right (And.right (And.right hn))))
  have n6 := And.left (And.right (And.right (And.right (And.right (And.right hn)))))
  clear hn
  k_fill
  refine' spec_enter (binds := [(Str.ofString "cursor", .ref cu), (Str.ofString "margins", .ref ma), (Str.ofString "tabs", .ref ta), (Str.ofString "many", .int n tn)]) ?ko ?kcd ?kb ?kl ?k1 ?_ ?kc ?c1 ?c2 ?c3
  (case ko => k_dflt k_is)
  (case kcd => k_dflt k_is)
  (case c1 => rfl)
  (case c2 => rfl)
  (case c3 => rfl)
  (case kb => (intro s hX; first | exact BindsTo.of_eq rfl | (k_dflt (refine' binds_K hX ?b1 ?b2 ?b3 ?b4 ?b5; (case b1 => exact rfl); (case b2 => k_is); (case b3 => exact rfl); (case b4 => exact rfl); (case b5 => exact rfl)))))
  (case kl => exact locs rfl)
  (case k1 => decide)
  (case kc => decide)
  intro p loose mean mg mb dp un gd outer A₀ base g s L' h₁ hd hu B F N X T
  (try dsimp only)
  (try k_fold)
  k_steps
  rename IsRange _ _ _ _ _ _ _ _ => hR
  rename Fr _ _ _ _ => F'
  rename News _ _ _ _ => N'
  rw [if_neg (by omega)] at hR
  refine range_loopC (n := n) (TabJ _ _ (fun i y => BackN ks left i x y)) rfl hR (small_one (by omega) (by omega) (by omega) (by omega)) (by rw [rangeSize_one]; split <;> omega) F' N' (tabJ_mk (bind_skip _ _ _ _) rfl) ?_ ?_
  all_goals clear F' N'
  · intro i t h tk I it hi y ty u hy hI F₁ N₁
    dsimp only [List.map] at hI
    (try dsimp only)
    (try k_fold)
    k_steps
    all_goals (try dsimp only); (try k_unfold); (try dsimp only)
    all_goals walk_at "e-tabturn"
  · intro h tk y ty u hy F₁ N₁
    (try dsimp only)
    (try k_fold)
    k_steps
    all_goals (try dsimp only); (try k_unfold); (try dsimp only)
    all_goals walk_at "e-tab"
set_option maxRecDepth 100000 in
set_option maxHeartbeats 2000000 in
theorem tabback_false (w : World) (cu dcu : Addr) (cc : CK) (r x : Int) (tr tx : Tok) (wt : Value) (ma dma : Addr) (mc : MK) (rows top bottom left right : Int) (m1 m2 m3 m4 m5 m6 : Tok) (ta dta st : Addr) (tc : TK) (cols : Int) (tq : Tok) (oS : Obj) (ks : List Int) (n : Nat) (tn : Tok) (hn : Dist [cu, dcu, ma, dma, ta, dta, st]) (hS : Keys w oS ks) (hlo : (st == sysModules) = false)
    (h2 : n ≤ 3) (h3 : 3 ≤ cols) :
    Spec PySem.Challenge.rw_og0257_01.row.prog w (hd.heap_1 w.params) 4 380 [.ref cu, .ref ma, .ref ta, .int n tn] [(cu, instObj 74 dcu), (dcu, curD cc (.int r tr) (.int x tx) wt (.bool false)), (ma, instObj 207 dma), (dma, marD mc (.int rows m1) (.int cols m2) (.int top m3) (.int bottom m4) (.int left m5) (.int right m6)), (ta, instObj 362 dta), (dta, tabD tc (.int cols tq) (.ref st)), (st, oS)]
      (Cps fun G => ∀ (x' : Int) (t1 : Tok) (t2 : Tok), (BackN ks 0 n x x') → G .none [(cu, instObj 74 dcu), (dcu, curD cc (.int r t1) (.int x' t2) (.bool false) (.bool false)), (ma, instObj 207 dma), (dma, marD mc (.int rows m1) (.int cols m2) (.int top m3) (.int bottom m4) (.int left m5) (.int right m6)), (ta, instObj 362 dta), (dta, tabD tc (.int cols tq) (.ref st)), (st, oS)]) := by
  k_with_none
  (k_with "call ref" => (k_here; k_dflt ( (with_reducible show wpAny _ _ (call (Value.ref 57) _ _) _ _ _); refine' spec_callC (as := [_, _]) (go_spec  ?hne) ?B ?F ?X ?T ?N ?hA ?hh ?hf ?hk (sub_cons ?m1 (sub_cons ?m2 sub_nil)) ?has ?hrest ?hd ?hu ?_; walk_at "sp-a"; walk_at "sp-m1"; walk_at "sp-m2"; (case hne => walk_at "sp-ne"); walk_at "sp-z"; intro  h' tk' hO' F' N'; walk_at "sp-n")))
  (k_with "call ref" => (k_here; k_dflt ( (with_reducible show wpAny _ _ (call (Value.ref 197) _ _) _ _ _); refine' spec_callC (as := [_, _]) (last_column_spec  ?hne) ?B ?F ?X ?T ?N ?hA ?hh ?hf ?hk (sub_cons ?m1 (sub_cons ?m2 sub_nil)) ?has ?hrest ?hd ?hu ?_; walk_at "sp-a"; walk_at "sp-m1"; walk_at "sp-m2"; (case hne => walk_at "sp-ne"); walk_at "sp-z"; intro t' h' tk' hO' F' N'; walk_at "sp-n")))
  (k_with "call ref" => (k_here; k_dflt ( (with_reducible show wpAny _ _ (call (Value.ref 337) _ _) _ _ _); refine' spec_callC (as := [_, _, _]) (next_spec  ?hn ?hS ?hlo) ?B ?F ?X ?T ?N ?hA ?hh ?hf ?hk (sub_cons ?m1 (sub_cons ?m2 (sub_cons ?m3 sub_nil))) ?has ?hrest ?hd ?hu ?_; walk_at "sp-a"; walk_at "sp-m1"; walk_at "sp-m2"; walk_at "sp-m3"; (case hS => k_asm); (case hlo => k_asm); (case hn => walk_at "sp-dist"); walk_at "sp-z"; intro r' t' hx' h' tk' hO' F' N'; walk_at "sp-n")))
  (k_with "call ref" => (k_here; k_dflt ( (with_reducible show wpAny _ _ (call (Value.ref 345) _ _) _ _ _); refine' spec_callC (as := [_, _, _]) (back_spec  ?hn ?hS ?hlo) ?B ?F ?X ?T ?N ?hA ?hh ?hf ?hk (sub_cons ?m1 (sub_cons ?m2 (sub_cons ?m3 sub_nil))) ?has ?hrest ?hd ?hu ?_; walk_at "sp-a"; walk_at "sp-m1"; walk_at "sp-m2"; walk_at "sp-m3"; (case hS => k_asm); (case hlo => k_asm); (case hn => walk_at "sp-dist"); walk_at "sp-z"; intro r' t' hx' h' tk' hO' F' N'; walk_at "sp-n")))
  (k_with "e-tab" => (refine' SpecEnd.introC ((_, _) :: (_, curD _ (.int _ _) (.int _ _) _ _) :: (_, _) :: (_, _) :: (_, _) :: (_, _) :: [(_, _)]) ?F ?N ?hs rfl rfl (fun _ k => k _ _ _ ?e); walk_at "sp-e"; (case e => assumption)))
  (k_with "e-tabturn" => ( refine' TurnEnd.intro ((_, _) :: (_, _) :: (_, _) :: (_, _) :: (_, _) :: (_, _) :: [(_, _)]) ?F ?N ?hi ?hs ?hn (tabJ_mk ?e1 ⟨_, ?e2, ?e3⟩); (case F => assumption); (case N => assumption); (case hi => k_mem); (case e1 => exact bind_again _ _ _ _ _ _ _); (case hn => assumption); (case e2 => assumption); (case e3 => assumption); (case hs => walk_at "sp-sub")))
  have n1 := And.left hn
  have n2 := And.left (And.right hn)
  have n3 := And.left (And.right (And.right hn))
  have n4 := And.left (And.right (And.right (And.right hn)))
  have n5 := And.left (And.right (And.right (And.right (And.right hn))))
  have n6 := And.left (And.right (And.right (And.right (And.right (And.right hn)))))
  clear hn
  k_fill
  refine' spec_enter (binds := [(Str.ofString "cursor", .ref cu), (Str.ofString "margins", .ref ma), (Str.ofString "tabs", .ref ta), (Str.ofString "many", .int n tn)]) ?ko ?kcd ?kb ?kl ?k1 ?_ ?kc ?c1 ?c2 ?c3
  (case ko => k_dflt k_is)
  (case kcd => k_dflt k_is)
  (case c1 => rfl)
  (case c2 => rfl)
  (case c3 => rfl)
  (case kb => (intro s hX; first | exact BindsTo.of_eq rfl | (k_dflt (refine' binds_K hX ?b1 ?b2 ?b3 ?b4 ?b5; (case b1 => exact rfl); (case b2 => k_is); (case b3 => exact rfl); (case b4 => exact rfl); (case b5 => exact rfl)))))
  (case kl => exact locs rfl)
  (case k1 => decide)
  (case kc => decide)
  intro p loose mean mg mb dp un gd outer A₀ base g s L' h₁ hd hu B F N X T
  (try dsimp only)
  (try k_fold)
  k_steps
  rename IsRange _ _ _ _ _ _ _ _ => hR
  rename Fr _ _ _ _ => F'
  rename News _ _ _ _ => N'
  rw [if_neg (by omega)] at hR
  refine range_loopC (n := n) (TabJ _ _ (fun i y => BackN ks 0 i x y)) rfl hR (small_one (by omega) (by omega) (by omega) (by omega)) (by rw [rangeSize_one]; split <;> omega) F' N' (tabJ_mk (bind_skip _ _ _ _) rfl) ?_ ?_
  all_goals clear F' N'
  · intro i t h tk I it hi y ty u hy hI F₁ N₁
    dsimp only [List.map] at hI
    (try dsimp only)
    (try k_fold)
    k_steps
    all_goals (try dsimp only); (try k_unfold); (try dsimp only)
    all_goals walk_at "e-tabturn"
  · intro h tk y ty u hy F₁ N₁
    (try dsimp only)
    (try k_fold)
    k_steps
    all_goals (try dsimp only); (try k_unfold); (try dsimp only)
    all_goals walk_at "e-tab"
theorem tabback_spec (w : World) (cu dcu : Addr) (cc : CK) (r x : Int) (tr tx : Tok) (wt : Value) (og : Bool) (ma dma : Addr) (mc : MK) (rows top bottom left right : Int) (m1 m2 m3 m4 m5 m6 : Tok) (ta dta st : Addr) (tc : TK) (cols : Int) (tq : Tok) (oS : Obj) (ks : List Int) (n : Nat) (tn : Tok) (hn : Dist [cu, dcu, ma, dma, ta, dta, st]) (hS : Keys w oS ks) (hlo : (st == sysModules) = false)
    (h2 : n ≤ 3) (h3 : 3 ≤ cols) :
    Spec PySem.Challenge.rw_og0257_01.row.prog w (hd.heap_1 w.params) 4 380 [.ref cu, .ref ma, .ref ta, .int n tn] [(cu, instObj 74 dcu), (dcu, curD cc (.int r tr) (.int x tx) wt (.bool og)), (ma, instObj 207 dma), (dma, marD mc (.int rows m1) (.int cols m2) (.int top m3) (.int bottom m4) (.int left m5) (.int right m6)), (ta, instObj 362 dta), (dta, tabD tc (.int cols tq) (.ref st)), (st, oS)]
      (Cps fun G => ∀ (x' : Int) (t1 : Tok) (t2 : Tok), (BackN ks (if og then left else 0) n x x') → G .none [(cu, instObj 74 dcu), (dcu, curD cc (.int r t1) (.int x' t2) (.bool false) (.bool og)), (ma, instObj 207 dma), (dma, marD mc (.int rows m1) (.int cols m2) (.int top m3) (.int bottom m4) (.int left m5) (.int right m6)), (ta, instObj 362 dta), (dta, tabD tc (.int cols tq) (.ref st)), (st, oS)]) := by
  cases og with
  | true => exact tabback_true w cu dcu cc r x tr tx wt ma dma mc rows top bottom left right m1 m2 m3 m4 m5 m6 ta dta st tc cols tq oS ks n tn hn hS hlo h2 h3
  | false => exact tabback_false w cu dcu cc r x tr tx wt ma dma mc rows top bottom left right m1 m2 m3 m4 m5 m6 ta dta st tc cols tq oS ks n tn hn hS hlo h2 h3
end
section
local macro_rules | `(tactic| walk_at "pyIter ref") => `(tactic| (k_here; refine Hold.out ?_))
local macro_rules | `(tactic| walk_at "sp-flen") => `(tactic| ((simp only [List.length_map, List.length_cons, List.length_nil, sizeLine_eq]); exact Nat.le_trans (Nat.add_le_add_right (List.length_filter_le _ _) _) (by omega)))
local macro_rules | `(tactic| walk_at "binaryOp Add ref ref") => `(tactic| (k_here; (with_reducible show wpAny _ _ (binaryOp _ (Value.ref _) (Value.ref _)) _ _ _); k_dflt (refine' kmk_add_ints ?F ?N ?a ?b ?i ?j ?_ ?z; (case F => k_asm); (case N => k_asm); (case a => kmk_list); (case b => kmk_list); (case i => l_ints); (case j => l_ints); (case z => walk_at "sp-flen")); intro D' ws' h' F' N' l1 hI'; (try k_lt l1); (try simp only [List.map_id'] at hI'); (try k_sweep)))
def LtJ (m₀ : Str → Option Value) (c ow ol : Addr) (vs : List Value) (vc : Nat) (O : Obj → Int → Prop) (P : Nat → Int → Prop) (i : Nat) (G : MLed) : Prop :=
  ∀ (y : Int) (u : Option Value) (oc : Obj) (v₀ : Option Value) (oW : Obj), oc.data = .cell v₀ → O oW y → P i y → G (fun z => if z = (Str.ofString "turn") then u else m₀ z) [(c, oc), (ow, oW), (ol, lsc vs vc)]
theorem ltJ_mk {m₀ m : Str → Option Value} {c ow ol : Addr} {vs : List Value} {vc : Nat} {O : Obj → Int → Prop} {P : Nat → Int → Prop} {i : Nat} {y : Int} {u : Option Value} {oc : Obj} {v₀ : Option Value} {oW : Obj} (e : m = (fun z => if z = (Str.ofString "turn") then u else m₀ z)) (h1 : oc.data = .cell v₀) (h2 : O oW y) (h3 : P i y) : ∀ G : MLed, LtJ m₀ c ow ol vs vc O P i G → G m [(c, oc), (ow, oW), (ol, lsc vs vc)] := by subst e; exact fun _ k => k _ _ _ _ _ h1 h2 h3
theorem bind_here (m : Str → Option Value) (b : Str) : m = (fun z => if z = b then m b else m z) := by
  funext z
  by_cases h' : z = b
  · simp [h']
  · simp [h']
theorem bind_turn (m : Str → Option Value) (b : Str) (v u : Option Value) : (fun z => if z = b then v else (fun z => if z = b then u else m z) z) = (fun z => if z = b then v else m z) := by
  funext z
  by_cases h' : z = b
  · simp [h']
  · simp [h']
theorem next_min {ks : List Int} {y most M : Int} (a : M ∈ ks.filter (fun a => decide (y < a)) ++ [most]) (b : ∀ a, a ∈ ks.filter (fun a => decide (y < a)) ++ [most] → M ≤ a) (h : y < most) : IsNext ks y most M := by
  have hm := b most (by simp)
  refine ⟨fun _ => ?_, fun q => absurd h q⟩
  rcases List.mem_append.mp a with a | a
  · obtain ⟨h1, h2⟩ := List.mem_filter.mp a
    have h2 := of_decide_eq_true h2
    exact ⟨h2, hm, .inr h1, fun k hk h3 _ => b k (List.mem_append.mpr (.inl (List.mem_filter.mpr ⟨hk, decide_eq_true h3⟩)))⟩
  · obtain rfl := List.mem_singleton.mp a
    exact ⟨h, hm, .inl rfl, fun k hk h3 _ => b k (List.mem_append.mpr (.inl (List.mem_filter.mpr ⟨hk, decide_eq_true h3⟩)))⟩
theorem back_max {ks : List Int} {y least M : Int} (a : M ∈ ks.filter (fun a => decide (a < y)) ++ [least]) (b : ∀ a, a ∈ ks.filter (fun a => decide (a < y)) ++ [least] → a ≤ M) (h : y > least) : IsBack ks y least M := by
  have hm := b least (by simp)
  refine ⟨fun _ => ?_, fun q => absurd h q⟩
  rcases List.mem_append.mp a with a | a
  · obtain ⟨h1, h2⟩ := List.mem_filter.mp a
    have h2 := of_decide_eq_true h2
    exact ⟨h2, hm, .inr h1, fun k hk _ h3 => b k (List.mem_append.mpr (.inl (List.mem_filter.mpr ⟨hk, decide_eq_true h3⟩)))⟩
  · obtain rfl := List.mem_singleton.mp a
    exact ⟨h, hm, .inl rfl, fun k hk _ h3 => b k (List.mem_append.mpr (.inl (List.mem_filter.mpr ⟨hk, decide_eq_true h3⟩)))⟩
local macro_rules | `(tactic| walk_at "sp-dec") => `(tactic| (try simp only [decide_eq_true_eq, decide_eq_false_iff_not, Bool.not_eq_true, Bool.not_eq_false, Bool.not_eq_true', Bool.not_eq_false', not_not] at *))
set_option maxRecDepth 100000 in
set_option maxHeartbeats 2000000 in
theorem ltab_pos_true (w : World) (ow : Addr) (oW : Obj) (rows cols top left bottom right row col : Int) (wait : Bool) (ol : Addr) (vs : List Value) (vc : Nat) (ks : List Int) (n : Nat) (tn : Tok) (hn : Dist [ow, ol]) (hW : OwnIs w oW rows cols top left bottom right row col wait true ol) (hI : IntsAre vs ks) (hL : ks.length ≤ 3)
    (h1 : 1 ≤ n) (h2 : n ≤ 3) :
    Spec PySem.Challenge.rw_og0257_01.row.prog w (hd.heap_1 w.params) 5 406 [.ref ow, .int n tn] [(ow, oW), (ol, lsc vs vc)]
      (Cps fun G => ∀ (x' : Int) (oW' : Obj), (OwnIs w oW' rows cols top left bottom right row x' wait true ol) → (NextN ks (lst0 right cols col) n col x') → G .none [(ow, oW'), (ol, lsc vs vc)]) := by
  k_with_none
  (k_with "call ref" => (k_here; k_dflt ( (with_reducible show wpAny _ _ (call (Value.ref 401) _ _) _ _ _); refine' spec_callC (as := [_]) (limits_spec  ?hW) ?B ?F ?X ?T ?N ?hA ?hh ?hf ?hk (sub_cons ?m1 sub_nil) ?has ?hrest ?hd ?hu ?_; walk_at "sp-a"; walk_at "sp-m1"; (case hW => exact own_mk (by k_asm) rfl rfl rfl rfl rfl rfl rfl rfl); walk_at "sp-z"; intro tp' hne' t1' t2' t3' t4' h' tk' hO' F' N'; have hN' := hO' _ (List.Mem.head _); dsimp only [List.map] at hN'; walk_at "sp-n")))
  (k_with "e-lt" => ( refine' TurnEnd.intro [(_, _), (_, _), (_, _)] ?F ?N ?hi ?hs ?hn (ltJ_mk ?e1 ?hc (own_mk ?hW rfl rfl rfl rfl rfl rfl rfl rfl) ⟨_, ?e2, ?e3⟩); (case F => assumption); (case N => assumption); (case hi => k_mem); (case e1 => exact bind_turn _ _ _ _); (case hs => walk_at "sp-sub"); (case hc => assumption); (case hW => assumption); (case hn => assumption); (case e2 => assumption); (case e3 => first | exact next_min (by assumption) (by assumption) (by assumption) | exact back_max (by assumption) (by assumption) (by assumption) | exact next_none (by assumption) | exact back_none (by assumption) | (walk_at "sp-dec"; first | exact next_min (by assumption) (by assumption) (by assumption) | exact back_max (by assumption) (by assumption) (by assumption) | exact next_none (by assumption) | exact back_none (by assumption) | exact next_none (by omega) | exact back_none (by omega)))))
  (k_with "e-ltend" => (refine' SpecEnd.introC [(_, _), (_, _)] ?F ?N ?hs rfl rfl (fun _ k => k _ _ ?hW ?hy); walk_at "sp-e"; walk_at "sp-hW"; (case hy => assumption)))
  have n1 := And.left hn
  clear hn
  refine hW _ ?_; clear hW; intro o1 o2 o3 o4 o5 o6 o7 o8 hW
  k_fill
  refine' spec_enterC (binds := [(Str.ofString "own", .ref ow), (Str.ofString "many", .int n tn)]) ?ko ?kcd ?kb ?kl ?kn ?k1 ?_ ?c1 ?c2 ?c3
  (case ko => k_dflt k_is)
  (case kcd => k_dflt k_is)
  (case c1 => rfl)
  (case c2 => rfl)
  (case c3 => rfl)
  (case kb => (intro s hX; exact BindsTo.of_eq rfl))
  (case kl => exact rfl)
  (case kn => decide +kernel)
  (case k1 => decide)
  intro p loose mean mg mb dp un gd outer A₀ base g s L' h₁ tk cells hd hu B F N Y l1 X T
  (try (replace l1 := allLt_of l1; simp only [AllLt, and_true] at l1))
  k_cells Y
  (try simp only [List.cons_append, List.nil_append] at N)
  (try dsimp only)
  (try k_fold)
  k_steps
  rename IsRange _ _ _ _ _ _ _ _ => hR
  rename Fr _ _ _ _ => F'
  rename News _ _ _ _ => N'
  rw [if_neg (by omega)] at hR
  refine range_loopC (n := n) (LtJ _ (L' + 1) ow ol vs vc (fun o y => OwnIs w o rows cols top left bottom right row y wait true ol) (fun i y => NextN ks (lst0 right cols col) i col y)) rfl hR (small_one (by omega) (by omega) (by omega) (by omega)) (by rw [rangeSize_one]; split <;> omega) F' (cb_drop N' ?_) (ltJ_mk (y := col) (bind_here _ _) (by assumption) (own_mk hW rfl rfl rfl rfl rfl rfl rfl rfl) rfl) ?_ ?_
  · walk_at "sp-sub"
  all_goals clear F' N' hW
  · intro i t h tk I it hi y u oc v₀ oW hc hW hy hI F₁ N₁; refine hW _ ?_; clear hW; intro o1 o2 o3 o4 o5 o6 o7 o8 hW
    dsimp only [List.map] at hI
    (try dsimp only)
    (try k_fold)
    k_steps
    all_goals (try dsimp only); (try k_unfold); (try dsimp only)
    all_goals (try k_data)
    all_goals walk_at "e-lt"
  · intro h tk y u oc v₀ oW hc hWy hy F₁ N₁
    (try dsimp only)
    (try k_fold)
    k_steps
    all_goals (try dsimp only); (try k_unfold); (try dsimp only)
    all_goals walk_at "e-ltend"
set_option maxRecDepth 100000 in
set_option maxHeartbeats 2000000 in
theorem ltab_pos_false (w : World) (ow : Addr) (oW : Obj) (rows cols top left bottom right row col : Int) (wait : Bool) (ol : Addr) (vs : List Value) (vc : Nat) (ks : List Int) (n : Nat) (tn : Tok) (hn : Dist [ow, ol]) (hW : OwnIs w oW rows cols top left bottom right row col wait false ol) (hI : IntsAre vs ks) (hL : ks.length ≤ 3)
    (h1 : 1 ≤ n) (h2 : n ≤ 3) :
    Spec PySem.Challenge.rw_og0257_01.row.prog w (hd.heap_1 w.params) 5 406 [.ref ow, .int n tn] [(ow, oW), (ol, lsc vs vc)]
      (Cps fun G => ∀ (x' : Int) (oW' : Obj), (OwnIs w oW' rows cols top left bottom right row x' wait false ol) → (NextN ks (lst0 right cols col) n col x') → G .none [(ow, oW'), (ol, lsc vs vc)]) := by
  k_with_none
  (k_with "call ref" => (k_here; k_dflt ( (with_reducible show wpAny _ _ (call (Value.ref 401) _ _) _ _ _); refine' spec_callC (as := [_]) (limits_spec  ?hW) ?B ?F ?X ?T ?N ?hA ?hh ?hf ?hk (sub_cons ?m1 sub_nil) ?has ?hrest ?hd ?hu ?_; walk_at "sp-a"; walk_at "sp-m1"; (case hW => exact own_mk (by k_asm) rfl rfl rfl rfl rfl rfl rfl rfl); walk_at "sp-z"; intro tp' hne' t1' t2' t3' t4' h' tk' hO' F' N'; have hN' := hO' _ (List.Mem.head _); dsimp only [List.map] at hN'; walk_at "sp-n")))
  (k_with "e-lt" => ( refine' TurnEnd.intro [(_, _), (_, _), (_, _)] ?F ?N ?hi ?hs ?hn (ltJ_mk ?e1 ?hc (own_mk ?hW rfl rfl rfl rfl rfl rfl rfl rfl) ⟨_, ?e2, ?e3⟩); (case F => assumption); (case N => assumption); (case hi => k_mem); (case e1 => exact bind_turn _ _ _ _); (case hs => walk_at "sp-sub"); (case hc => assumption); (case hW => assumption); (case hn => assumption); (case e2 => assumption); (case e3 => first | exact next_min (by assumption) (by assumption) (by assumption) | exact back_max (by assumption) (by assumption) (by assumption) | exact next_none (by assumption) | exact back_none (by assumption) | (walk_at "sp-dec"; first | exact next_min (by assumption) (by assumption) (by assumption) | exact back_max (by assumption) (by assumption) (by assumption) | exact next_none (by assumption) | exact back_none (by assumption) | exact next_none (by omega) | exact back_none (by omega)))))
  (k_with "e-ltend" => (refine' SpecEnd.introC [(_, _), (_, _)] ?F ?N ?hs rfl rfl (fun _ k => k _ _ ?hW ?hy); walk_at "sp-e"; walk_at "sp-hW"; (case hy => assumption)))
  have n1 := And.left hn
  clear hn
  refine hW _ ?_; clear hW; intro o1 o2 o3 o4 o5 o6 o7 o8 hW
  k_fill
  refine' spec_enterC (binds := [(Str.ofString "own", .ref ow), (Str.ofString "many", .int n tn)]) ?ko ?kcd ?kb ?kl ?kn ?k1 ?_ ?c1 ?c2 ?c3
  (case ko => k_dflt k_is)
  (case kcd => k_dflt k_is)
  (case c1 => rfl)
  (case c2 => rfl)
  (case c3 => rfl)
  (case kb => (intro s hX; exact BindsTo.of_eq rfl))
  (case kl => exact rfl)
  (case kn => decide +kernel)
  (case k1 => decide)
  intro p loose mean mg mb dp un gd outer A₀ base g s L' h₁ tk cells hd hu B F N Y l1 X T
  (try (replace l1 := allLt_of l1; simp only [AllLt, and_true] at l1))
  k_cells Y
  (try simp only [List.cons_append, List.nil_append] at N)
  (try dsimp only)
  (try k_fold)
  k_steps
  rename IsRange _ _ _ _ _ _ _ _ => hR
  rename Fr _ _ _ _ => F'
  rename News _ _ _ _ => N'
  rw [if_neg (by omega)] at hR
  refine range_loopC (n := n) (LtJ _ (L' + 1) ow ol vs vc (fun o y => OwnIs w o rows cols top left bottom right row y wait false ol) (fun i y => NextN ks (lst0 right cols col) i col y)) rfl hR (small_one (by omega) (by omega) (by omega) (by omega)) (by rw [rangeSize_one]; split <;> omega) F' (cb_drop N' ?_) (ltJ_mk (y := col) (bind_here _ _) (by assumption) (own_mk hW rfl rfl rfl rfl rfl rfl rfl rfl) rfl) ?_ ?_
  · walk_at "sp-sub"
  all_goals clear F' N' hW
  · intro i t h tk I it hi y u oc v₀ oW hc hW hy hI F₁ N₁; refine hW _ ?_; clear hW; intro o1 o2 o3 o4 o5 o6 o7 o8 hW
    dsimp only [List.map] at hI
    (try dsimp only)
    (try k_fold)
    k_steps
    all_goals (try dsimp only); (try k_unfold); (try dsimp only)
    all_goals (try k_data)
    all_goals walk_at "e-lt"
  · intro h tk y u oc v₀ oW hc hWy hy F₁ N₁
    (try dsimp only)
    (try k_fold)
    k_steps
    all_goals (try dsimp only); (try k_unfold); (try dsimp only)
    all_goals walk_at "e-ltend"
set_option maxRecDepth 100000 in
set_option maxHeartbeats 2000000 in
theorem ltab_neg_true (w : World) (ow : Addr) (oW : Obj) (rows cols top left bottom right row col : Int) (wait : Bool) (ol : Addr) (vs : List Value) (vc : Nat) (ks : List Int) (n : Nat) (tn : Tok) (hn : Dist [ow, ol]) (hW : OwnIs w oW rows cols top left bottom right row col wait true ol) (hI : IntsAre vs ks) (hL : ks.length ≤ 3)
    (h1 : 1 ≤ n) (h2 : n ≤ 3) :
    Spec PySem.Challenge.rw_og0257_01.row.prog w (hd.heap_1 w.params) 5 406 [.ref ow, .int (0 - (n : Int)) tn] [(ow, oW), (ol, lsc vs vc)]
      (Cps fun G => ∀ (x' : Int) (oW' : Obj), (OwnIs w oW' rows cols top left bottom right row x' wait true ol) → (BackN ks left n col x') → G .none [(ow, oW'), (ol, lsc vs vc)]) := by
  k_with_none
  (k_with "call ref" => (k_here; k_dflt ( (with_reducible show wpAny _ _ (call (Value.ref 401) _ _) _ _ _); refine' spec_callC (as := [_]) (limits_spec  ?hW) ?B ?F ?X ?T ?N ?hA ?hh ?hf ?hk (sub_cons ?m1 sub_nil) ?has ?hrest ?hd ?hu ?_; walk_at "sp-a"; walk_at "sp-m1"; (case hW => exact own_mk (by k_asm) rfl rfl rfl rfl rfl rfl rfl rfl); walk_at "sp-z"; intro tp' hne' t1' t2' t3' t4' h' tk' hO' F' N'; have hN' := hO' _ (List.Mem.head _); dsimp only [List.map] at hN'; walk_at "sp-n")))
  (k_with "e-lt" => ( refine' TurnEnd.intro [(_, _), (_, _), (_, _)] ?F ?N ?hi ?hs ?hn (ltJ_mk ?e1 ?hc (own_mk ?hW rfl rfl rfl rfl rfl rfl rfl rfl) ⟨_, ?e2, ?e3⟩); (case F => assumption); (case N => assumption); (case hi => k_mem); (case e1 => exact bind_turn _ _ _ _); (case hs => walk_at "sp-sub"); (case hc => assumption); (case hW => assumption); (case hn => assumption); (case e2 => assumption); (case e3 => first | exact next_min (by assumption) (by assumption) (by assumption) | exact back_max (by assumption) (by assumption) (by assumption) | exact next_none (by assumption) | exact back_none (by assumption) | (walk_at "sp-dec"; first | exact next_min (by assumption) (by assumption) (by assumption) | exact back_max (by assumption) (by assumption) (by assumption) | exact next_none (by assumption) | exact back_none (by assumption) | exact next_none (by omega) | exact back_none (by omega)))))
  (k_with "e-ltend" => (refine' SpecEnd.introC [(_, _), (_, _)] ?F ?N ?hs rfl rfl (fun _ k => k _ _ ?hW ?hy); walk_at "sp-e"; walk_at "sp-hW"; (case hy => assumption)))
  have n1 := And.left hn
  clear hn
  refine hW _ ?_; clear hW; intro o1 o2 o3 o4 o5 o6 o7 o8 hW
  k_fill
  refine' spec_enterC (binds := [(Str.ofString "own", .ref ow), (Str.ofString "many", .int (0 - (n : Int)) tn)]) ?ko ?kcd ?kb ?kl ?kn ?k1 ?_ ?c1 ?c2 ?c3
  (case ko => k_dflt k_is)
  (case kcd => k_dflt k_is)
  (case c1 => rfl)
  (case c2 => rfl)
  (case c3 => rfl)
  (case kb => (intro s hX; exact BindsTo.of_eq rfl))
  (case kl => exact rfl)
  (case kn => decide +kernel)
  (case k1 => decide)
  intro p loose mean mg mb dp un gd outer A₀ base g s L' h₁ tk cells hd hu B F N Y l1 X T
  (try (replace l1 := allLt_of l1; simp only [AllLt, and_true] at l1))
  k_cells Y
  (try simp only [List.cons_append, List.nil_append] at N)
  (try dsimp only)
  (try k_fold)
  k_steps
  rename IsRange _ _ _ _ _ _ _ _ => hR
  rename Fr _ _ _ _ => F'
  rename News _ _ _ _ => N'
  rw [if_pos (by omega)] at hR
  refine range_loopC (n := n) (LtJ _ (L' + 1) ow ol vs vc (fun o y => OwnIs w o rows cols top left bottom right row y wait true ol) (fun i y => BackN ks left i col y)) rfl hR (small_one (by omega) (by omega) (by omega) (by omega)) (by rw [rangeSize_one]; split <;> omega) F' (cb_drop N' ?_) (ltJ_mk (y := col) (bind_here _ _) (by assumption) (own_mk hW rfl rfl rfl rfl rfl rfl rfl rfl) rfl) ?_ ?_
  · walk_at "sp-sub"
  all_goals clear F' N' hW
  · intro i t h tk I it hi y u oc v₀ oW hc hW hy hI F₁ N₁; refine hW _ ?_; clear hW; intro o1 o2 o3 o4 o5 o6 o7 o8 hW
    dsimp only [List.map] at hI
    (try dsimp only)
    (try k_fold)
    k_steps
    all_goals (try dsimp only); (try k_unfold); (try dsimp only)
    all_goals (try k_data)
    all_goals walk_at "e-lt"
  · intro h tk y u oc v₀ oW hc hWy hy F₁ N₁
    (try dsimp only)
    (try k_fold)
    k_steps
    all_goals (try dsimp only); (try k_unfold); (try dsimp only)
    all_goals walk_at "e-ltend"
set_option maxRecDepth 100000 in
set_option maxHeartbeats 2000000 in
theorem ltab_neg_false (w : World) (ow : Addr) (oW : Obj) (rows cols top left bottom right row col : Int) (wait : Bool) (ol : Addr) (vs : List Value) (vc : Nat) (ks : List Int) (n : Nat) (tn : Tok) (hn : Dist [ow, ol]) (hW : OwnIs w oW rows cols top left bottom right row col wait false ol) (hI : IntsAre vs ks) (hL : ks.length ≤ 3)
    (h1 : 1 ≤ n) (h2 : n ≤ 3) :
    Spec PySem.Challenge.rw_og0257_01.row.prog w (hd.heap_1 w.params) 5 406 [.ref ow, .int (0 - (n : Int)) tn] [(ow, oW), (ol, lsc vs vc)]
      (Cps fun G => ∀ (x' : Int) (oW' : Obj), (OwnIs w oW' rows cols top left bottom right row x' wait false ol) → (BackN ks 0 n col x') → G .none [(ow, oW'), (ol, lsc vs vc)]) := by
  k_with_none
  (k_with "call ref" => (k_here; k_dflt ( (with_reducible show wpAny _ _ (call (Value.ref 401) _ _) _ _ _); refine' spec_callC (as := [_]) (limits_spec  ?hW) ?B ?F ?X ?T ?N ?hA ?hh ?hf ?hk (sub_cons ?m1 sub_nil) ?has ?hrest ?hd ?hu ?_; walk_at "sp-a"; walk_at "sp-m1"; (case hW => exact own_mk (by k_asm) rfl rfl rfl rfl rfl rfl rfl rfl); walk_at "sp-z"; intro tp' hne' t1' t2' t3' t4' h' tk' hO' F' N'; have hN' := hO' _ (List.Mem.head _); dsimp only [List.map] at hN'; walk_at "sp-n")))
  (k_with "e-lt" => ( refine' TurnEnd.intro [(_, _), (_, _), (_, _)] ?F ?N ?hi ?hs ?hn (ltJ_mk ?e1 ?hc (own_mk ?hW rfl rfl rfl rfl rfl rfl rfl rfl) ⟨_, ?e2, ?e3⟩); (case F => assumption); (case N => assumption); (case hi => k_mem); (case e1 => exact bind_turn _ _ _ _); (case hs => walk_at "sp-sub"); (case hc => assumption); (case hW => assumption); (case hn => assumption); (case e2 => assumption); (case e3 => first | exact next_min (by assumption) (by assumption) (by assumption) | exact back_max (by assumption) (by assumption) (by assumption) | exact next_none (by assumption) | exact back_none (by assumption) | (walk_at "sp-dec"; first | exact next_min (by assumption) (by assumption) (by assumption) | exact back_max (by assumption) (by assumption) (by assumption) | exact next_none (by assumption) | exact back_none (by assumption) | exact next_none (by omega) | exact back_none (by omega)))))
  (k_with "e-ltend" => (refine' SpecEnd.introC [(_, _), (_, _)] ?F ?N ?hs rfl rfl (fun _ k => k _ _ ?hW ?hy); walk_at "sp-e"; walk_at "sp-hW"; (case hy => assumption)))
  have n1 := And.left hn
  clear hn
  refine hW _ ?_; clear hW; intro o1 o2 o3 o4 o5 o6 o7 o8 hW
  k_fill
  refine' spec_enterC (binds := [(Str.ofString "own", .ref ow), (Str.ofString "many", .int (0 - (n : Int)) tn)]) ?ko ?kcd ?kb ?kl ?kn ?k1 ?_ ?c1 ?c2 ?c3
  (case ko => k_dflt k_is)
  (case kcd => k_dflt k_is)
  (case c1 => rfl)
  (case c2 => rfl)
  (case c3 => rfl)
  (case kb => (intro s hX; exact BindsTo.of_eq rfl))
  (case kl => exact rfl)
  (case kn => decide +kernel)
  (case k1 => decide)
  intro p loose mean mg mb dp un gd outer A₀ base g s L' h₁ tk cells hd hu B F N Y l1 X T
  (try (replace l1 := allLt_of l1; simp only [AllLt, and_true] at l1))
  k_cells Y
  (try simp only [List.cons_append, List.nil_append] at N)
  (try dsimp only)
  (try k_fold)
  k_steps
  rename IsRange _ _ _ _ _ _ _ _ => hR
  rename Fr _ _ _ _ => F'
  rename News _ _ _ _ => N'
  rw [if_pos (by omega)] at hR
  refine range_loopC (n := n) (LtJ _ (L' + 1) ow ol vs vc (fun o y => OwnIs w o rows cols top left bottom right row y wait false ol) (fun i y => BackN ks 0 i col y)) rfl hR (small_one (by omega) (by omega) (by omega) (by omega)) (by rw [rangeSize_one]; split <;> omega) F' (cb_drop N' ?_) (ltJ_mk (y := col) (bind_here _ _) (by assumption) (own_mk hW rfl rfl rfl rfl rfl rfl rfl rfl) rfl) ?_ ?_
  · walk_at "sp-sub"
  all_goals clear F' N' hW
  · intro i t h tk I it hi y u oc v₀ oW hc hW hy hI F₁ N₁; refine hW _ ?_; clear hW; intro o1 o2 o3 o4 o5 o6 o7 o8 hW
    dsimp only [List.map] at hI
    (try dsimp only)
    (try k_fold)
    k_steps
    all_goals (try dsimp only); (try k_unfold); (try dsimp only)
    all_goals (try k_data)
    all_goals walk_at "e-lt"
  · intro h tk y u oc v₀ oW hc hWy hy F₁ N₁
    (try dsimp only)
    (try k_fold)
    k_steps
    all_goals (try dsimp only); (try k_unfold); (try dsimp only)
    all_goals walk_at "e-ltend"
end
section
theorem ints_of {w : World} : ∀ (ks : List Int) (vs : List Value), vs.length = ks.length → (∀ (j : Nat) (v : Value), vs[j]? = some v → ∃ k x, (ks.map fun k => (k, Value.bool true))[j]? = some (k, x) ∧ (intKind PySem.Challenge.rw_og0257_01.row.prog w).is k v = true) → IntsAre vs ks
  | [], [], _, _ => .nil
  | k :: ks, v :: vs, hl, h => by
    obtain ⟨k', x, hx, hk⟩ := h 0 v rfl
    simp only [List.map_cons, List.getElem?_cons_zero, Option.some.injEq, Prod.mk.injEq] at hx
    obtain ⟨rfl, _⟩ := hx
    obtain ⟨t, rfl⟩ := Value.isInt_shape hk
    refine .cons _ _ (ints_of (w := w) ks vs (by simpa using hl) fun j v hv => ?_)
    obtain ⟨k', x, hx, hk⟩ := h (j + 1) v (by simpa using hv)
    exact ⟨k', x, by simpa using hx, hk⟩
theorem sorted_keys {w : World} {A : Around} {E : Value → Shared → Prop} {s : Shared} {h₀ : Heap} {L d : Addr} {m : Str → Option Value} {news : Led} {o : Obj} {ks : List Int} {Q : Value → Shared → Prop}
    (hh : A.handled = none) (F : Fr h₀ L s.heap m) (N : News h₀ L s.heap news) (hm : (d, o) ∈ news) (hd : Keys w o ks) (lo : (d == sysModules) = false) (hlen : ks.length < 64) (hs : ks.Pairwise (· < ·))
    (h : ∀ (D : Addr) ys c h' tk, Fr h₀ L h' m → News h₀ L h' ((D, PySem.W.listOf (List.toArray ys) c) :: news) → (∀ q ∈ news, q.1 < D) → IntsAre ys ks → Q (.ref D) { s with heap := h', toks := tk }) :
    wpAny (model PySem.Challenge.rw_og0257_01.row.prog w) A (call (.builtin "sorted") [.ref d]) Q E s := by
  have hD : s.heap.DictOf (intKind PySem.Challenge.rw_og0257_01.row.prog w) d (ks.map fun k => (k, Value.bool true)) := kda_dict N hm hd
  obtain ⟨ep, hat⟩ := hD.dictAt
  refine kdu_sorted (kdl_dict (knd := intKind PySem.Challenge.rw_og0257_01.row.prog w) lo) hh F N hat (by rw [List.length_map, sizeLine_eq]; omega) fun D h' tk vs F' N' l1 hl hv => ?_
  have hI : IntsAre vs ks := ints_of (w := w) ks vs (by simpa using hl) hv
  refine ksk_lsort (s := { s with heap := h', toks := tk }) (news' := fun o => (D, o) :: news) F' N' (fun o => .head fun p hp => Nat.ne_of_lt (l1 p hp)) (by simp) hI hlen fun vs' ns' c h'' F'' N'' hI' _ hp hP _ => ?_
  obtain rfl : ns' = ks := ksm_same hp hP (hs.imp fun h => Int.le_of_lt h)
  exact h D vs' c h'' tk F'' N'' l1 hI'
local macro_rules | `(tactic| walk_at "call builtin:sorted") => `(tactic| (k_here; k_dflt ((with_reducible show wpAny _ _ (call (Value.builtin "sorted") [Value.ref _]) _ _ _); refine' sorted_keys ?hh ?F ?N ?hm ?hd ?lo ?hl ?hs ?_; (case hh => exact rfl); (case F => k_asm); (case N => k_asm); (case hm => k_mem); (case hd => k_asm); (case lo => k_asm); (case hl => assumption); (case hs => assumption)); intro D' ys' c' h' tk' F' N' l1 hI'; (try k_lt l1); (try k_sweep)))
set_option maxRecDepth 100000 in
set_option maxHeartbeats 2000000 in
theorem told_spec {w : World} {ta dta st : Addr} {tc : TK} {cols : Int} {tq : Tok} {oS : Obj} {ks : List Int} (hn : Dist [ta, dta, st]) (hS : Keys w oS ks) (hlo : (st == sysModules) = false) (hlen : ks.length < 64) (hs : ks.Pairwise (· < ·)) :
    Spec PySem.Challenge.rw_og0257_01.row.prog w (hd.heap_1 w.params) 3 323 [.ref ta] [(ta, instObj 362 dta), (dta, tabD tc (.int cols tq) (.ref st)), (st, oS)]
      (Cps fun G => ∀ (D : Addr) (ys : List Value) (n : Nat), (IntsAre ys ks) → (D ≠ ta) → (D ≠ dta) → (D ≠ st) → G (.ref D) [(D, PySem.W.listOf (List.toArray ys) n), (ta, instObj 362 dta), (dta, tabD tc (.int cols tq) (.ref st)), (st, oS)]) := by
  k_with_none
  (k_with "e-told" => (refine' SpecEnd.introC ((_, PySem.W.listOf (List.toArray _) _) :: (_, _) :: (_, _) :: [(_, _)]) ?F ?N ?hs rfl rfl (fun _ k => k _ _ _ ?hI ?n1 ?n2 ?n3); walk_at "sp-e"; (case hI => assumption); (case n1 => walk_at "sp-ne"); (case n2 => walk_at "sp-ne"); (case n3 => walk_at "sp-ne")))
  have n1 := And.left hn
  have n2 := And.left (And.right hn)
  clear hn
  k_fill
  refine' spec_enter (binds := [(Str.ofString "self", .ref ta)]) ?ko ?kcd ?kb ?kl ?k1 ?_ ?kc ?c1 ?c2 ?c3
  (case ko => k_dflt k_is)
  (case kcd => k_dflt k_is)
  (case c1 => rfl)
  (case c2 => rfl)
  (case c3 => rfl)
  (case kb => (intro s hX; first | exact BindsTo.of_eq rfl | (k_dflt (refine' binds_K hX ?b1 ?b2 ?b3 ?b4 ?b5; (case b1 => exact rfl); (case b2 => k_is); (case b3 => exact rfl); (case b4 => exact rfl); (case b5 => exact rfl)))))
  (case kl => exact locs rfl)
  (case k1 => decide)
  (case kc => decide)
  intro p loose mean mg mb dp un gd outer A₀ base g s L' h₁ hd hu B F N X T
  (try dsimp only)
  (try k_fold)
  k_steps
  all_goals (try dsimp only); (try k_unfold); (try dsimp only)
  all_goals walk_at "e-told"
end
section
local macro_rules | `(tactic| walk_at "pyIter ref") => `(tactic| (k_here; refine Hold.out ?_))
theorem set_keys {w : World} {A : Around} {E : Value → Shared → Prop} {s : Shared} {h₀ : Heap} {L d : Addr} {m : Str → Option Value} {news : Led} {g : Obj → Led} {o : Obj} {ks : List Int} {y : Int} {t : Tok} {Q : Unit → Shared → Prop}
    (F : Fr h₀ L s.heap m) (N : News h₀ L s.heap news) (U : UpdF d o news g) (hd : Keys w o ks) (hy : y ∉ ks) (hlen : ks.length < 64)
    (h : ∀ h' o', Fr h₀ L h' m → News h₀ L h' (g o') → Keys w o' (ks ++ [y]) → Q () { s with heap := h', toks := s.toks + 1 }) :
    wpAny (model PySem.Challenge.rw_og0257_01.row.prog w) A (setItem (.ref d) (.int y t) (.bool true)) Q E s := by
  refine kda_set (knd := intKind PySem.Challenge.rw_og0257_01.row.prog w) F N U hd (intKind_is _ _ _ _) (by rw [List.length_map, sizeLine_eq]; omega) fun h' o' F' N' hd' => h h' o' F' N' ?_
  have e : stored (ks.map fun k => (k, Value.bool true)) y (Value.bool true) = (ks ++ [y]).map fun k => (k, Value.bool true) := by
    unfold stored
    rw [if_neg, List.map_append]
    · rfl
    · intro hq
      obtain ⟨p, hp, e⟩ := List.any_eq_true.mp hq
      obtain ⟨k, hk, rfl⟩ := List.mem_map.mp hp
      exact hy (of_decide_eq_true e ▸ hk)
  rw [e] at hd'
  exact hd'
local macro_rules | `(tactic| walk_at "setItem ref int") => `(tactic| (k_here; k_dflt (refine' set_keys ?F ?N ?U ?d ?y ?l ?_; (case F => k_asm); (case N => k_asm); (case U => k_updF); (case d => k_asm); (case y => assumption); (case l => assumption)); intro h' o' F' N' hd'; (try dsimp only at N'); (try k_sweep)))
set_option maxRecDepth 100000 in
set_option maxHeartbeats 2000000 in
theorem set_spec {w : World} {ta dta st : Addr} {tc : TK} {cols : Int} {tq : Tok} {oS : Obj} {ks : List Int} {x : Int} {tx : Tok} (hn : Dist [ta, dta, st]) (hS : Keys w oS ks) (hlo : (st == sysModules) = false) (hlen : ks.length < 64) (h0 : 0 ≤ x) (h1 : x < cols) (hx : x ∉ ks) :
    Spec PySem.Challenge.rw_og0257_01.row.prog w (hd.heap_1 w.params) 3 295 [.ref ta, .int x tx] [(ta, instObj 362 dta), (dta, tabD tc (.int cols tq) (.ref st)), (st, oS)]
      (Cps fun G => ∀ (oS' : Obj), (Keys w oS' (ks ++ [x])) → G .none [(ta, instObj 362 dta), (dta, tabD tc (.int cols tq) (.ref st)), (st, oS')]) := by
  k_with_none
  (k_with "e-set" => (refine' SpecEnd.introC ((_, _) :: (_, _) :: [(_, _)]) ?F ?N ?hs rfl rfl (fun _ k => k _ ?hS); walk_at "sp-e"; (case hS => assumption)))
  have n1 := And.left hn
  have n2 := And.left (And.right hn)
  clear hn
  k_fill
  refine' spec_enter (binds := [(Str.ofString "self", .ref ta), (Str.ofString "column", .int x tx)]) ?ko ?kcd ?kb ?kl ?k1 ?_ ?kc ?c1 ?c2 ?c3
  (case ko => k_dflt k_is)
  (case kcd => k_dflt k_is)
  (case c1 => rfl)
  (case c2 => rfl)
  (case c3 => rfl)
  (case kb => (intro s hX; first | exact BindsTo.of_eq rfl | (k_dflt (refine' binds_K hX ?b1 ?b2 ?b3 ?b4 ?b5; (case b1 => exact rfl); (case b2 => k_is); (case b3 => exact rfl); (case b4 => exact rfl); (case b5 => exact rfl)))))
  (case kl => exact locs rfl)
  (case k1 => decide)
  (case kc => decide)
  intro p loose mean mg mb dp un gd outer A₀ base g s L' h₁ hd hu B F N X T
  (try dsimp only)
  (try k_fold)
  k_steps
  all_goals (try dsimp only); (try k_unfold); (try dsimp only)
  all_goals walk_at "e-set"
def PutJ (w : World) (m₀ : Str → Option Value) (ta dta st cl : Addr) (lo : Obj) (tc : TK) (cols : Int) (tq : Tok) (pre : List Int) (G : MLed) : Prop :=
  ∀ (u : Option Value) (oS : Obj), Keys w oS pre → G (fun z => if z = (Str.ofString "column") then u else m₀ z) [(ta, instObj 362 dta), (dta, tabD tc (.int cols tq) (.ref st)), (st, oS), (cl, lo)]
theorem putJ_mk {w : World} {m₀ m : Str → Option Value} {ta dta st cl : Addr} {lo : Obj} {tc : TK} {cols : Int} {tq : Tok} {pre : List Int} {u : Option Value} {oS : Obj} (e : m = (fun z => if z = (Str.ofString "column") then u else m₀ z)) (h : Keys w oS pre) : ∀ G : MLed, PutJ w m₀ ta dta st cl lo tc cols tq pre G → G m [(ta, instObj 362 dta), (dta, tabD tc (.int cols tq) (.ref st)), (st, oS), (cl, lo)] := by subst e; exact fun _ k => k _ _ h
theorem bind_here' (m : Str → Option Value) (b : Str) : m = (fun z => if z = b then m b else m z) := by
  funext z
  by_cases h' : z = b
  · simp [h']
  · simp [h']
theorem bind_turn' (m : Str → Option Value) (b : Str) (v u : Option Value) : (fun z => if z = b then v else (fun z => if z = b then u else m z) z) = (fun z => if z = b then v else m z) := by
  funext z
  by_cases h' : z = b
  · simp [h']
  · simp [h']
set_option maxRecDepth 100000 in
set_option maxHeartbeats 2000000 in
theorem put_spec {w : World} {ta dta st : Addr} {tc : TK} {cols : Int} {tq : Tok} {cl : Addr} {lo : Obj} {vs : List Value} {n : Nat} {ls : List Int} (hn : Dist [ta, dta, cl]) (hc : lo.cls = .type "list") (hdat : lo.data = .seq vs.toArray n) (hI : IntsAre vs ls) (hlen : ls.length < 64) (hnd : ls.Nodup) (hin : ∀ k ∈ ls, 0 ≤ k ∧ k < cols) :
    Spec PySem.Challenge.rw_og0257_01.row.prog w (hd.heap_1 w.params) 5 330 [.ref ta, .ref cl] [(ta, instObj 362 dta), (dta, tabD tc (.int cols tq) (.ref st)), (cl, lo)]
      (Cps fun G => ∀ (st' : Addr) (oS' : Obj), (Keys w oS' ls) → ((st' == sysModules) = false) → (st' ≠ ta) → (st' ≠ dta) → (st' ≠ cl) → G .none [(ta, instObj 362 dta), (dta, tabD tc (.int cols tq) (.ref st')), (st', oS'), (cl, lo)]) := by
  k_with_none
  (k_with "call ref" => (k_here; k_dflt ( (with_reducible show wpAny _ _ (call (Value.ref 295) _ _) _ _ _); refine' spec_callC (as := [_, _, _]) (set_spec  ?hn ?hS ?hlo ?hlen ?h0 ?h1 ?hx) ?B ?F ?X ?T ?N ?hA ?hh ?hf ?hk (sub_cons ?m1 (sub_cons ?m2 (sub_cons ?m3 sub_nil))) ?has ?hrest ?hd ?hu ?_; walk_at "sp-a"; walk_at "sp-m1"; walk_at "sp-m2"; walk_at "sp-m3"; (case hS => k_asm); (case hlo => k_asm); (case hn => walk_at "sp-dist"); (case hlen => assumption); (case h0 => assumption); (case h1 => assumption); (case hx => assumption); walk_at "sp-z"; intro oS' hS' h' tk' hO' F' N'; walk_at "sp-n")))
  (k_with "e-putturn" => ( refine' TurnEnd.intro [(_, _), (_, _), (_, _), (_, _)] ?F ?N ?hi ?hs ?hn (putJ_mk ?e1 ?hS); (case F => assumption); (case N => assumption); (case hi => k_mem); (case e1 => exact bind_turn' _ _ _ _); (case hs => walk_at "sp-sub"); (case hS => assumption); (case hn => assumption)))
  (k_with "e-put" => (refine' SpecEnd.introC [(_, _), (_, tabD _ (.int _ _) (.ref _)), (_, _), (_, _)] ?F ?N ?hs rfl rfl (fun _ k => k _ _ ?hS ?hlo ?n1 ?n2 ?n3); walk_at "sp-e"; (case hS => assumption); (case hlo => assumption); (case n1 => walk_at "sp-ne"); (case n2 => walk_at "sp-ne"); (case n3 => walk_at "sp-ne")))
  have n1 := And.left hn
  have n2 := And.left (And.right hn)
  clear hn
  k_fill
  refine' spec_enter (binds := [(Str.ofString "self", .ref ta), (Str.ofString "columns", .ref cl)]) ?ko ?kcd ?kb ?kl ?k1 ?_ ?kc ?c1 ?c2 ?c3
  (case ko => k_dflt k_is)
  (case kcd => k_dflt k_is)
  (case c1 => rfl)
  (case c2 => rfl)
  (case c3 => rfl)
  (case kb => (intro s hX; first | exact BindsTo.of_eq rfl | (k_dflt (refine' binds_K hX ?b1 ?b2 ?b3 ?b4 ?b5; (case b1 => exact rfl); (case b2 => k_is); (case b3 => exact rfl); (case b4 => exact rfl); (case b5 => exact rfl)))))
  (case kl => exact locs rfl)
  (case k1 => decide)
  (case kc => decide)
  intro p loose mean mg mb dp un gd outer A₀ base g s L' h₁ hd hu B F N X T
  (try dsimp only)
  (try k_fold)
  k_steps
  rename Fr _ _ _ _ => F'
  rename News _ _ _ _ => N'
  rename Obj.IsDictOf (intKind _ _) _ _ => hi'
  rename_i st' _ o' hlo' _ _ _ l1 _
  refine list_loopC (x := (Str.ofString "column")) (PutJ w _ ta dta st' cl lo tc cols tq) rfl F' (cb_drop N' ?_) (by k_mem) hc hdat hI (putJ_mk (bind_here' _ _) hi') ?_ ?_ ?_
  · walk_at "sp-sub"
  · intro pre u oS _
    k_mem
  all_goals clear F' N' hi'
  · intro pre k rest t h tk I it e u oS hS hI' F₁ N₁
    dsimp only [List.map] at hI'
    have hx : k ∉ pre := by
      subst e
      intro q
      exact (List.nodup_append.mp hnd).2.2 k q k (List.mem_cons_self) rfl
    have hlen' : pre.length < 64 := by subst e; simp at hlen; omega
    obtain ⟨h0, h1⟩ := hin k (by subst e; simp)
    (try dsimp only)
    (try k_fold)
    k_steps
    all_goals (try dsimp only); (try k_unfold); (try dsimp only)
    all_goals walk_at "e-putturn"
  · intro h tk u oS hS F₁ N₁
    (try dsimp only)
    (try k_fold)
    k_steps
    all_goals (try dsimp only); (try k_unfold); (try dsimp only)
    all_goals walk_at "e-put"
end
section
theorem isNext_unique {ks : List Int} {x most r r' : Int} (h : IsNext ks x most r) (h' : IsNext ks x most r') : r = r' := by
  by_cases q : x < most
  · obtain ⟨a1, a2, a3, a4⟩ := h.1 q
    obtain ⟨b1, b2, b3, b4⟩ := h'.1 q
    have p1 : r ≤ r' := by
      rcases b3 with b3 | b3
      · omega
      · by_cases z : r' < most
        · exact a4 r' b3 b1 z
        · omega
    have p2 : r' ≤ r := by
      rcases a3 with a3 | a3
      · omega
      · by_cases z : r < most
        · exact b4 r a3 a1 z
        · omega
    omega
  · rw [h.2 q, h'.2 q]
theorem isBack_unique {ks : List Int} {x least r r' : Int} (h : IsBack ks x least r) (h' : IsBack ks x least r') : r = r' := by
  by_cases q : x > least
  · obtain ⟨a1, a2, a3, a4⟩ := h.1 q
    obtain ⟨b1, b2, b3, b4⟩ := h'.1 q
    have p1 : r ≤ r' := by
      rcases a3 with a3 | a3
      · omega
      · by_cases z : r > least
        · exact b4 r a3 z a1
        · omega
    have p2 : r' ≤ r := by
      rcases b3 with b3 | b3
      · omega
      · by_cases z : r' > least
        · exact a4 r' b3 z b1
        · omega
    omega
  · rw [h.2 q, h'.2 q]
theorem nextN_unique {ks : List Int} {most : Int} : ∀ {n : Nat} {x r r' : Int}, NextN ks most n x r → NextN ks most n x r' → r = r'
  | 0, _, _, _, h, h' => by rw [show _ = _ from h, show _ = _ from h']
  | n + 1, _, _, _, ⟨y, h1, h2⟩, ⟨y', h1', h2'⟩ => by
    obtain rfl := nextN_unique h1 h1'
    exact isNext_unique h2 h2'
theorem backN_unique {ks : List Int} {least : Int} : ∀ {n : Nat} {x r r' : Int}, BackN ks least n x r → BackN ks least n x r' → r = r'
  | 0, _, _, _, h, h' => by rw [show _ = _ from h, show _ = _ from h']
  | n + 1, _, _, _, ⟨y, h1, h2⟩, ⟨y', h1', h2'⟩ => by
    obtain rfl := backN_unique h1 h1'
    exact isBack_unique h2 h2'
theorem nextN_bounds {ks : List Int} {most : Int} : ∀ {n : Nat} {x r : Int}, NextN ks most n x r → x ≤ most → x ≤ r ∧ r ≤ most
  | 0, _, _, h, hx => by rw [show _ = _ from h]; omega
  | n + 1, _, r, ⟨y, h1, h2⟩, hx => by
    obtain ⟨a, b⟩ := nextN_bounds h1 hx
    by_cases q : y < most
    · obtain ⟨c, d, _⟩ := h2.1 q; omega
    · rw [h2.2 q]; omega
theorem backN_bounds {ks : List Int} {least : Int} : ∀ {n : Nat} {x r : Int}, BackN ks least n x r → least ≤ x → least ≤ r ∧ r ≤ x
  | 0, _, _, h, hx => by rw [show _ = _ from h]; omega
  | n + 1, _, r, ⟨y, h1, h2⟩, hx => by
    obtain ⟨a, b⟩ := backN_bounds h1 hx
    by_cases q : y > least
    · obtain ⟨c, d, _⟩ := h2.1 q; omega
    · rw [h2.2 q]; omega
theorem tabbed_int {w : World} {cu dcu : Addr} {cc : CK} {r x : Int} {tr tx : Tok} {wt og : Value} {ma dma : Addr} {mc : MK} {rows top bottom left right : Int} {m1 m2 m3 m4 m5 m6 : Tok} {ta dta st : Addr} {tc : TK} {cols : Int} {tq : Tok} {oS : Obj} {ks : List Int} {k : Int} {tn : Tok} (hn : Dist [cu, dcu, ma, dma, ta, dta, st]) (hS : Keys w oS ks) (hlo : (st == sysModules) = false)
    (h1 : 1 ≤ k) (h2 : k ≤ 3) (h3 : 3 ≤ cols) :
    Spec PySem.Challenge.rw_og0257_01.row.prog w (hd.heap_1 w.params) 4 373 [.ref cu, .ref ma, .ref ta, .int k tn] [(cu, instObj 74 dcu), (dcu, curD cc (.int r tr) (.int x tx) wt og), (ma, instObj 207 dma), (dma, marD mc (.int rows m1) (.int cols m2) (.int top m3) (.int bottom m4) (.int left m5) (.int right m6)), (ta, instObj 362 dta), (dta, tabD tc (.int cols tq) (.ref st)), (st, oS)]
      (Cps fun G => ∀ (x' : Int) (t1 : Tok) (t2 : Tok), (NextN ks (lst0 right cols x) k.toNat x x') → G .none [(cu, instObj 74 dcu), (dcu, curD cc (.int r t1) (.int x' t2) (.bool false) og), (ma, instObj 207 dma), (dma, marD mc (.int rows m1) (.int cols m2) (.int top m3) (.int bottom m4) (.int left m5) (.int right m6)), (ta, instObj 362 dta), (dta, tabD tc (.int cols tq) (.ref st)), (st, oS)]) := by
  obtain ⟨n, rfl⟩ : ∃ n : Nat, k = n := ⟨k.toNat, by omega⟩
  rw [Int.toNat_natCast]
  exact tabbed_spec w cu dcu cc r x tr tx wt og ma dma mc rows top bottom left right m1 m2 m3 m4 m5 m6 ta dta st tc cols tq oS ks n tn hn hS hlo (by omega) h3
theorem tabback_int {w : World} {cu dcu : Addr} {cc : CK} {r x : Int} {tr tx : Tok} {wt : Value} {og : Bool} {ma dma : Addr} {mc : MK} {rows top bottom left right : Int} {m1 m2 m3 m4 m5 m6 : Tok} {ta dta st : Addr} {tc : TK} {cols : Int} {tq : Tok} {oS : Obj} {ks : List Int} {k : Int} {tn : Tok} (hn : Dist [cu, dcu, ma, dma, ta, dta, st]) (hS : Keys w oS ks) (hlo : (st == sysModules) = false)
    (h1 : 1 ≤ k) (h2 : k ≤ 3) (h3 : 3 ≤ cols) :
    Spec PySem.Challenge.rw_og0257_01.row.prog w (hd.heap_1 w.params) 4 380 [.ref cu, .ref ma, .ref ta, .int k tn] [(cu, instObj 74 dcu), (dcu, curD cc (.int r tr) (.int x tx) wt (.bool og)), (ma, instObj 207 dma), (dma, marD mc (.int rows m1) (.int cols m2) (.int top m3) (.int bottom m4) (.int left m5) (.int right m6)), (ta, instObj 362 dta), (dta, tabD tc (.int cols tq) (.ref st)), (st, oS)]
      (Cps fun G => ∀ (x' : Int) (t1 : Tok) (t2 : Tok), (BackN ks (if og then left else 0) k.toNat x x') → G .none [(cu, instObj 74 dcu), (dcu, curD cc (.int r t1) (.int x' t2) (.bool false) (.bool og)), (ma, instObj 207 dma), (dma, marD mc (.int rows m1) (.int cols m2) (.int top m3) (.int bottom m4) (.int left m5) (.int right m6)), (ta, instObj 362 dta), (dta, tabD tc (.int cols tq) (.ref st)), (st, oS)]) := by
  obtain ⟨n, rfl⟩ : ∃ n : Nat, k = n := ⟨k.toNat, by omega⟩
  rw [Int.toNat_natCast]
  exact tabback_spec w cu dcu cc r x tr tx wt og ma dma mc rows top bottom left right m1 m2 m3 m4 m5 m6 ta dta st tc cols tq oS ks n tn hn hS hlo (by omega) h3
theorem ltab_pos {w : World} {ow : Addr} {oW : Obj} {rows cols top left bottom right row col : Int} {wait org : Bool} {ol : Addr} {vs : List Value} {vc : Nat} {ks : List Int} {k : Int} {tn : Tok} (hn : Dist [ow, ol]) (hW : OwnIs w oW rows cols top left bottom right row col wait org ol) (hI : IntsAre vs ks) (hL : ks.length ≤ 3)
    (h1 : 1 ≤ k) (h2 : k ≤ 3) :
    Spec PySem.Challenge.rw_og0257_01.row.prog w (hd.heap_1 w.params) 5 406 [.ref ow, .int k tn] [(ow, oW), (ol, lsc vs vc)]
      (Cps fun G => ∀ (x' : Int) (oW' : Obj), (OwnIs w oW' rows cols top left bottom right row x' wait org ol) → (NextN ks (lst0 right cols col) k.toNat col x') → G .none [(ow, oW'), (ol, lsc vs vc)]) := by
  obtain ⟨n, rfl⟩ : ∃ n : Nat, k = n := ⟨k.toNat, by omega⟩
  rw [Int.toNat_natCast]
  cases org with
  | true => exact ltab_pos_true w ow oW rows cols top left bottom right row col wait ol vs vc ks n tn hn hW hI hL (by omega) (by omega)
  | false => exact ltab_pos_false w ow oW rows cols top left bottom right row col wait ol vs vc ks n tn hn hW hI hL (by omega) (by omega)
theorem ltab_neg {w : World} {ow : Addr} {oW : Obj} {rows cols top left bottom right row col : Int} {wait org : Bool} {ol : Addr} {vs : List Value} {vc : Nat} {ks : List Int} {k : Int} {tn : Tok} (hn : Dist [ow, ol]) (hW : OwnIs w oW rows cols top left bottom right row col wait org ol) (hI : IntsAre vs ks) (hL : ks.length ≤ 3)
    (h1 : 1 ≤ k) (h2 : k ≤ 3) :
    Spec PySem.Challenge.rw_og0257_01.row.prog w (hd.heap_1 w.params) 5 406 [.ref ow, .int (0 - k) tn] [(ow, oW), (ol, lsc vs vc)]
      (Cps fun G => ∀ (x' : Int) (oW' : Obj), (OwnIs w oW' rows cols top left bottom right row x' wait org ol) → (BackN ks (if org then left else 0) k.toNat col x') → G .none [(ow, oW'), (ol, lsc vs vc)]) := by
  obtain ⟨n, rfl⟩ : ∃ n : Nat, k = n := ⟨k.toNat, by omega⟩
  rw [Int.toNat_natCast]
  cases org with
  | true => exact ltab_neg_true w ow oW rows cols top left bottom right row col wait ol vs vc ks n tn hn hW hI hL (by omega) (by omega)
  | false => exact ltab_neg_false w ow oW rows cols top left bottom right row col wait ol vs vc ks n tn hn hW hI hL (by omega) (by omega)
theorem bd_next {rows cols top left bottom right row col x : Int} {org : Bool} {ks : List Int} {n : Nat} (m : Mg rows cols top left bottom right) (h : Bd rows cols top left bottom right row col org) (hN : NextN ks (lst0 right cols col) n col x) :
    Bd rows cols top left bottom right row x org := by
  obtain ⟨g1, g2, g3, g4, g5, g6, g7, g8, g9, g10⟩ := m
  obtain ⟨b1, b2, b3, b4, b5⟩ := h
  have hl : col ≤ lst0 right cols col ∧ lst0 right cols col < cols ∧ (col ≤ right → lst0 right cols col = right) := by unfold lst0; split <;> omega
  obtain ⟨p, q⟩ := nextN_bounds hN hl.1
  refine ⟨b1, b2, by omega, by omega, fun o => ?_⟩
  have := b5 o
  have := hl.2.2 (by omega)
  omega
theorem bd_back {rows cols top left bottom right row col x : Int} {org : Bool} {ks : List Int} {n : Nat} (m : Mg rows cols top left bottom right) (h : Bd rows cols top left bottom right row col org) (hN : BackN ks (if org then left else 0) n col x) :
    Bd rows cols top left bottom right row x org := by
  obtain ⟨g1, g2, g3, g4, g5, g6, g7, g8, g9, g10⟩ := m
  obtain ⟨b1, b2, b3, b4, b5⟩ := h
  have hl : (if org then left else 0) ≤ col ∧ 0 ≤ (if org then left else 0) := by
    cases org
    · exact ⟨by simpa using b3, by simp⟩
    · have := b5 rfl; exact ⟨by simp; omega, by simp; omega⟩
  obtain ⟨p, q⟩ := backN_bounds hN hl.1
  refine ⟨b1, b2, by omega, by omega, fun o => ?_⟩
  have := b5 o
  subst o
  simp only [if_true] at p
  omega
end
section
set_option maxRecDepth 100000 in
set_option maxHeartbeats 2000000 in
theorem lmoved_spec {w : World} {dk lc : Addr} {oD : Obj} {ys : List Value} {ns : List Int} {a : Int} {ow : Addr} {oW : Obj} {rows cols top left bottom right row col : Int} {wait org : Bool} {ol : Addr} {vs : List Value} {vc : Nat} {ks : List Int} {cu dcu : Addr} {cc : CK} {tr tx : Tok} {wt : Value} {ma dma : Addr} {mc : MK} {m1 m2 m3 m4 m5 m6 : Tok} {ta dta st : Addr} {tc : TK} {tq : Tok} {oS : Obj} {way : Int} {tw : Tok} (hn : Dist [dk, lc, ow, ol, cu, dcu, ma, dma, ta, dta, st]) (hDk : DeckIs w oD lc a) (hI : IntsAre ys ns) (hL : ns.length ≤ 48) (ha0 : 0 ≤ a) (ha1 : a < 900000) (hW : OwnIs w oW rows cols top left bottom right row col wait org ol)
    (hS : Keys w oS ks) (hlo : (st == sysModules) = false) (hI2 : IntsAre vs ks) (hL2 : ks.length ≤ 3) (hm : Mg rows cols top left bottom right) (hb : Bd rows cols top left bottom right row col org) :
    Spec PySem.Challenge.rw_og0257_01.row.prog w (hd.heap_1 w.params) 9 434 [.ref dk, .int way tw, .ref cu, .ref ma, .ref ta, .ref ow] [(dk, oD), (lc, LCg.lst ys), (ow, oW), (ol, lsc vs vc), (cu, instObj 74 dcu), (dcu, curD cc (.int row tr) (.int col tx) wt (.bool org)), (ma, instObj 207 dma), (dma, marD mc (.int rows m1) (.int cols m2) (.int top m3) (.int bottom m4) (.int left m5) (.int right m6)), (ta, instObj 362 dta), (dta, tabD tc (.int cols tq) (.ref st)), (st, oS)]
      (Cps fun G => ∀ (oD' : Obj) (a' : Int) (oW' : Obj) (r : Int) (x : Int), (DeckIs w oD' lc a') → (a ≤ a') → (a' ≤ a + 1) → (OwnIs w oW' rows cols top left bottom right r x wait org ol) → (Bd rows cols top left bottom right r x org) → ∀ (t1 : Tok) (t2 : Tok), G .none [(cu, instObj 74 dcu), (dcu, curD cc (.int r t1) (.int x t2) (.bool false) (.bool org)), (dk, oD'), (lc, LCg.lst ys), (ow, oW'), (ol, lsc vs vc), (ma, instObj 207 dma), (dma, marD mc (.int rows m1) (.int cols m2) (.int top m3) (.int bottom m4) (.int left m5) (.int right m6)), (ta, instObj 362 dta), (dta, tabD tc (.int cols tq) (.ref st)), (st, oS)]) := by
  k_with_none
  (k_with "call ref" => (k_here; k_dflt ( (with_reducible show wpAny _ _ (call (Value.ref 387) _ _) _ _ _); refine' spec_callC (as := [_, _]) (draw_spec  ?hne ?hDk ?hI ?hl2 ?ha0 ?ha1 ?hs0 ?hs1 ?hb0 ?hb1) ?B ?F ?X ?T ?N ?hA ?hh ?hf ?hk (sub_cons ?m1 (sub_cons ?m2 sub_nil)) ?has ?hrest ?hd ?hu ?_; walk_at "sp-a"; walk_at "sp-m1"; (case hDk => k_asm); walk_at "sp-m2"; (case hne => walk_at "sp-ne"); (case hI => l_ints); (case hl2 => walk_at "sp-len"); (case ha0 => walk_at "sp-om"); (case ha1 => walk_at "sp-om"); (case hs0 => walk_at "sp-om"); (case hs1 => walk_at "sp-om"); (case hb0 => walk_at "sp-om"); (case hb1 => walk_at "sp-om"); walk_at "sp-z"; intro r' t' oD' st' ta' ts' hr0' hr1' hD' hs0' hs1' h' tk' hO' F' N'; walk_at "sp-n")))
  (k_with "call ref" => (k_here; k_dflt ( (with_reducible show wpAny _ _ (call (Value.ref 253) _ _) _ _ _); refine' spec_callC (as := [_, _, _, _]) (homed_spec  ?hn ?hr ?hc ?h1 ?h2) ?B ?F ?X ?T ?N ?hA ?hh ?hf ?hk (sub_cons ?m1 (sub_cons ?m2 (sub_cons ?m3 (sub_cons ?m4 sub_nil)))) ?has ?hrest ?hd ?hu ?_; walk_at "sp-a"; walk_at "sp-m1"; walk_at "sp-m2"; walk_at "sp-m3"; walk_at "sp-m4"; (case hn => walk_at "sp-dist"); (case hr => walk_at "sp-om"); (case hc => walk_at "sp-om"); (case h1 => walk_at "sp-om"); (case h2 => walk_at "sp-om"); walk_at "sp-z"; intro t1' t2' h' tk' hO' F' N'; walk_at "sp-n")))
  (k_with "call ref" => (k_here; k_dflt ( (with_reducible show wpAny _ _ (call (Value.ref 394) _ _) _ _ _); refine' spec_callC (as := [_]) (home_spec  ?hW) ?B ?F ?X ?T ?N ?hA ?hh ?hf ?hk (sub_cons ?m1 sub_nil) ?has ?hrest ?hd ?hu ?_; walk_at "sp-a"; walk_at "sp-m1"; (case hW => exact own_mk (by k_asm) rfl rfl rfl rfl rfl rfl rfl rfl); walk_at "sp-z"; intro oW' hW' h' tk' hO' F' N'; walk_at "sp-ow"; walk_at "sp-n")))
  (k_with "call ref" => (k_here; k_dflt ( (with_reducible show wpAny _ _ (call (Value.ref 401) _ _) _ _ _); refine' spec_callC (as := [_]) (limits_spec  ?hW) ?B ?F ?X ?T ?N ?hA ?hh ?hf ?hk (sub_cons ?m1 sub_nil) ?has ?hrest ?hd ?hu ?_; walk_at "sp-a"; walk_at "sp-m1"; (case hW => exact own_mk (by k_asm) rfl rfl rfl rfl rfl rfl rfl rfl); walk_at "sp-z"; intro tp' hne' t1' t2' t3' t4' h' tk' hO' F' N'; have hN' := hO' _ (List.Mem.head _); dsimp only [List.map] at hN'; walk_at "sp-n")))
  (k_with "call ref" => (k_here; k_dflt ( (with_reducible show wpAny _ _ (call (Value.ref 260) _ _) _ _ _); refine' spec_callC (as := [_, _, _, _]) (returned_spec  ?hn ?hx) ?B ?F ?X ?T ?N ?hA ?hh ?hf ?hk (sub_cons ?m1 (sub_cons ?m2 (sub_cons ?m3 (sub_cons ?m4 sub_nil)))) ?has ?hrest ?hd ?hu ?_; walk_at "sp-a"; walk_at "sp-m1"; walk_at "sp-m2"; walk_at "sp-m3"; walk_at "sp-m4"; (case hn => walk_at "sp-dist"); (case hx => assumption); walk_at "sp-z"; intro t1' t2' h' tk' hO' F' N'; walk_at "sp-n")))
  (k_with "call ref" => (k_here; k_dflt ( (with_reducible show wpAny _ _ (call (Value.ref 267) _ _) _ _ _); refine' spec_callC (as := [_, _, _, _]) (stepped_spec  ?hn ?h1 ?h2 ?h3 ?h4) ?B ?F ?X ?T ?N ?hA ?hh ?hf ?hk (sub_cons ?m1 (sub_cons ?m2 (sub_cons ?m3 (sub_cons ?m4 sub_nil)))) ?has ?hrest ?hd ?hu ?_; walk_at "sp-a"; walk_at "sp-m1"; walk_at "sp-m2"; walk_at "sp-m3"; walk_at "sp-m4"; (case hn => walk_at "sp-dist"); (case h1 => walk_at "sp-om"); (case h2 => walk_at "sp-om"); (case h3 => walk_at "sp-om"); (case h4 => walk_at "sp-om"); walk_at "sp-z"; intro t1' t2' h' tk' hO' F' N'; walk_at "sp-n")))
  (k_with "call ref" => (k_here; k_dflt ( (with_reducible show wpAny _ _ (call (Value.ref 373) _ _) _ _ _); refine' spec_callC (as := [_, _, _, _, _, _, _]) (tabbed_int  ?hn ?hS ?hlo ?h1 ?h2 ?h3) ?B ?F ?X ?T ?N ?hA ?hh ?hf ?hk (sub_cons ?m1 (sub_cons ?m2 (sub_cons ?m3 (sub_cons ?m4 (sub_cons ?m5 (sub_cons ?m6 (sub_cons ?m7 sub_nil))))))) ?has ?hrest ?hd ?hu ?_; walk_at "sp-a"; walk_at "sp-m1"; walk_at "sp-m2"; walk_at "sp-m3"; walk_at "sp-m4"; walk_at "sp-m5"; walk_at "sp-m6"; walk_at "sp-m7"; (case hS => k_asm); (case hlo => k_asm); (case hn => walk_at "sp-dist"); (case h1 => walk_at "sp-om"); (case h2 => walk_at "sp-om"); (case h3 => walk_at "sp-om"); walk_at "sp-z"; intro x' t1' t2' hx' h' tk' hO' F' N'; walk_at "sp-n")))
  (k_with "call ref" => (k_here; k_dflt ( (with_reducible show wpAny _ _ (call (Value.ref 380) _ _) _ _ _); refine' spec_callC (as := [_, _, _, _, _, _, _]) (tabback_int  ?hn ?hS ?hlo ?h1 ?h2 ?h3) ?B ?F ?X ?T ?N ?hA ?hh ?hf ?hk (sub_cons ?m1 (sub_cons ?m2 (sub_cons ?m3 (sub_cons ?m4 (sub_cons ?m5 (sub_cons ?m6 (sub_cons ?m7 sub_nil))))))) ?has ?hrest ?hd ?hu ?_; walk_at "sp-a"; walk_at "sp-m1"; walk_at "sp-m2"; walk_at "sp-m3"; walk_at "sp-m4"; walk_at "sp-m5"; walk_at "sp-m6"; walk_at "sp-m7"; (case hS => k_asm); (case hlo => k_asm); (case hn => walk_at "sp-dist"); (case h1 => walk_at "sp-om"); (case h2 => walk_at "sp-om"); (case h3 => walk_at "sp-om"); walk_at "sp-z"; intro x' t1' t2' hx' h' tk' hO' F' N'; walk_at "sp-n")))
  (k_with "call ref" => (k_here; k_dflt ( (with_reducible show wpAny _ _ (call (Value.ref 406) _ _) _ _ _); refine' spec_callC (as := [_, _]) (ltab_neg  ?hn ?hW ?hI ?hL ?h1 ?h2) ?B ?F ?X ?T ?N ?hA ?hh ?hf ?hk (sub_cons ?m1 (sub_cons ?m2 sub_nil)) ?has ?hrest ?hd ?hu ?_; walk_at "sp-a"; walk_at "sp-m1"; (case hW => exact own_mk (by k_asm) rfl rfl rfl rfl rfl rfl rfl rfl); walk_at "sp-m2"; (case hI => k_asm); (case hL => assumption); (case hn => walk_at "sp-dist"); (case h1 => walk_at "sp-om"); (case h2 => walk_at "sp-om"); walk_at "sp-z"; intro x' oW' hW' hx' h' tk' hO' F' N'; walk_at "sp-ow"; walk_at "sp-n")))
  (k_with "call ref" => (k_here; k_dflt ( (with_reducible show wpAny _ _ (call (Value.ref 406) _ _) _ _ _); refine' spec_callC (as := [_, _]) (ltab_pos  ?hn ?hW ?hI ?hL ?h1 ?h2) ?B ?F ?X ?T ?N ?hA ?hh ?hf ?hk (sub_cons ?m1 (sub_cons ?m2 sub_nil)) ?has ?hrest ?hd ?hu ?_; walk_at "sp-a"; walk_at "sp-m1"; (case hW => exact own_mk (by k_asm) rfl rfl rfl rfl rfl rfl rfl rfl); walk_at "sp-m2"; (case hI => k_asm); (case hL => assumption); (case hn => walk_at "sp-dist"); (case h1 => walk_at "sp-om"); (case h2 => walk_at "sp-om"); walk_at "sp-z"; intro x' oW' hW' hx' h' tk' hO' F' N'; walk_at "sp-ow"; walk_at "sp-n")))
  (k_with "e-mv" => (refine' SpecEnd.introC ((_, _) :: (_, _) :: (_, _) :: (_, _) :: (_, _) :: (_, _) :: (_, _) :: (_, _) :: (_, _) :: (_, _) :: [(_, _)]) ?F ?N ?hs rfl (cur_eq ?e1 ?e2) (fun _ k => k _ _ _ _ _ (deck_mk ?hDk ?i1 ?i2 rfl) ?i3 ?i4 (own_mk ?hW rfl rfl rfl rfl rfl rfl rfl rfl) ?bd _ _); walk_at "sp-e"; walk_at "sp-hDk"; walk_at "sp-hW"; walk_at "sp-i1"; walk_at "sp-i2"; walk_at "sp-i3"; walk_at "sp-i4"; (case e1 => rfl); (case e2 => first | rfl | exact nextN_unique (by assumption) (by assumption) | exact backN_unique (by assumption) (by assumption) | ((repeat' split) <;> omega)); (case bd => first | exact bd_home (by assumption) | exact bd_ret (by assumption) (by assumption) | exact bd_next (by assumption) (by assumption) (by assumption) | exact bd_back (by assumption) (by assumption) (by assumption) | exact bd_step (by assumption) (by assumption) (by (repeat' split) <;> omega))))
  have n1 := And.left hn
  have n2 := And.left (And.right hn)
  have n3 := And.left (And.right (And.right hn))
  have n4 := And.left (And.right (And.right (And.right hn)))
  have n5 := And.left (And.right (And.right (And.right (And.right hn))))
  have n6 := And.left (And.right (And.right (And.right (And.right (And.right hn)))))
  have n7 := And.left (And.right (And.right (And.right (And.right (And.right (And.right hn))))))
  have n8 := And.left (And.right (And.right (And.right (And.right (And.right (And.right (And.right hn)))))))
  have n9 := And.left (And.right (And.right (And.right (And.right (And.right (And.right (And.right (And.right hn))))))))
  have n10 := And.left (And.right (And.right (And.right (And.right (And.right (And.right (And.right (And.right (And.right hn)))))))))
  clear hn
  refine hDk _ ?_; clear hDk; intro sti dta1 dts1 hDk hs0 hs1
  refine hW _ ?_; clear hW; intro o1 o2 o3 o4 o5 o6 o7 o8 hW
  refine mg_el hm ?_; intro g1 g2 g3 g4 g5 g6 g7 g8 g9 g10
  refine bd_el hb ?_; intro b1 b2 b3 b4 b5
  have hx : org = true → left ≤ col := fun o => (b5 o).2.2.1
  k_fill
  refine' spec_enter (binds := [(Str.ofString "deck", .ref dk), (Str.ofString "way", .int way tw), (Str.ofString "cursor", .ref cu), (Str.ofString "margins", .ref ma), (Str.ofString "tabs", .ref ta), (Str.ofString "own", .ref ow)]) ?ko ?kcd ?kb ?kl ?k1 ?_ ?kc ?c1 ?c2 ?c3
  (case ko => k_dflt k_is)
  (case kcd => k_dflt k_is)
  (case c1 => rfl)
  (case c2 => rfl)
  (case c3 => rfl)
  (case kb => (intro s hX; first | exact BindsTo.of_eq rfl | (k_dflt (refine' binds_K hX ?b1 ?b2 ?b3 ?b4 ?b5; (case b1 => exact rfl); (case b2 => k_is); (case b3 => exact rfl); (case b4 => exact rfl); (case b5 => exact rfl)))))
  (case kl => exact locs rfl)
  (case k1 => decide)
  (case kc => decide)
  intro p loose mean mg mb dp un gd outer A₀ base g s L' h₁ hd hu B F N X T
  (try dsimp only)
  (try k_fold)
  k_steps
  all_goals (try dsimp only); (try k_unfold); (try dsimp only)
  all_goals walk_at "e-mv"
end
section
local macro_rules | `(tactic| walk_at "no key 0") => `(tactic| skip)
set_option maxRecDepth 100000 in
set_option maxHeartbeats 2000000 in
theorem same_true (w : World) (ow : Addr) (oW : Obj) (rows cols top left bottom right row col : Int) (wait : Bool) (ol : Addr) (vs : List Value) (vc : Nat) (ks : List Int) (cu dcu : Addr) (cc : CK) (tr tx : Tok) (ma dma : Addr) (mc : MK) (m1 m2 m3 m4 m5 m6 : Tok) (ta dta st : Addr) (tc : TK) (tq : Tok) (oS : Obj) (hn : Dist [ow, ol, cu, dcu, ma, dma, ta, dta, st]) (hW : OwnIs w oW rows cols top left bottom right row col wait true ol)
    (hS : Keys w oS ks) (hlo : (st == sysModules) = false) (hI2 : IntsAre vs ks) (hL2 : ks.length ≤ 3) (hs : ks.Pairwise (· < ·)) :
    Spec PySem.Challenge.rw_og0257_01.row.prog w (hd.heap_1 w.params) 20 446 [.ref cu, .ref ma, .ref ta, .ref ow] [(ow, oW), (ol, lsc vs vc), (cu, instObj 74 dcu), (dcu, curD cc (.int row tr) (.int col tx) (.bool wait) (.bool true)), (ma, instObj 207 dma), (dma, marD mc (.int rows m1) (.int cols m2) (.int top m3) (.int bottom m4) (.int left m5) (.int right m6)), (ta, instObj 362 dta), (dta, tabD tc (.int cols tq) (.ref st)), (st, oS)]
      (Cps fun G => G (.bool true) [(ow, oW), (ol, lsc vs vc), (cu, instObj 74 dcu), (dcu, curD cc (.int row tr) (.int col tx) (.bool wait) (.bool true)), (ma, instObj 207 dma), (dma, marD mc (.int rows m1) (.int cols m2) (.int top m3) (.int bottom m4) (.int left m5) (.int right m6)), (ta, instObj 362 dta), (dta, tabD tc (.int cols tq) (.ref st)), (st, oS)]) := by
  k_with_none
  (k_with "call ref" => (k_here; k_dflt ( (with_reducible show wpAny _ _ (call (Value.ref 323) _ _) _ _ _); refine' spec_callC (as := [_, _, _]) (told_spec  ?hn ?hS ?hlo ?hlen ?hs) ?B ?F ?X ?T ?N ?hA ?hh ?hf ?hk (sub_cons ?m1 (sub_cons ?m2 (sub_cons ?m3 sub_nil))) ?has ?hrest ?hd ?hu ?_; walk_at "sp-a"; walk_at "sp-m1"; walk_at "sp-m2"; walk_at "sp-m3"; (case hS => k_asm); (case hlo => k_asm); (case hn => walk_at "sp-dist"); (case hlen => walk_at "sp-om"); (case hs => assumption); walk_at "sp-z"; intro D' ys' n' hI' hd1' hd2' hd3' h' tk' hO' F' N'; have hN' := hO' _ (List.Mem.head _); dsimp only [List.map] at hN'; walk_at "sp-n")))
  (k_with "call ref" => (k_here; k_dflt ( (with_reducible show wpAny _ _ (call (Value.ref 401) _ _) _ _ _); refine' spec_callC (as := [_]) (limits_spec  ?hW) ?B ?F ?X ?T ?N ?hA ?hh ?hf ?hk (sub_cons ?m1 sub_nil) ?has ?hrest ?hd ?hu ?_; walk_at "sp-a"; walk_at "sp-m1"; (case hW => exact own_mk (by k_asm) rfl rfl rfl rfl rfl rfl rfl rfl); walk_at "sp-z"; intro tp' hne' t1' t2' t3' t4' h' tk' hO' F' N'; have hN' := hO' _ (List.Mem.head _); dsimp only [List.map] at hN'; walk_at "sp-n")))
  (k_with "call ref" => (k_here; k_dflt ( (with_reducible show wpAny _ _ (call (Value.ref 176) _ _) _ _ _); refine' spec_callC (as := [_, _]) (first_row_spec  ?hne) ?B ?F ?X ?T ?N ?hA ?hh ?hf ?hk (sub_cons ?m1 (sub_cons ?m2 sub_nil)) ?has ?hrest ?hd ?hu ?_; walk_at "sp-a"; walk_at "sp-m1"; walk_at "sp-m2"; (case hne => walk_at "sp-ne"); walk_at "sp-z"; intro t' h' tk' hO' F' N'; walk_at "sp-n")))
  (k_with "call ref" => (k_here; k_dflt ( (with_reducible show wpAny _ _ (call (Value.ref 183) _ _) _ _ _); refine' spec_callC (as := [_, _]) (last_row_spec  ?hne) ?B ?F ?X ?T ?N ?hA ?hh ?hf ?hk (sub_cons ?m1 (sub_cons ?m2 sub_nil)) ?has ?hrest ?hd ?hu ?_; walk_at "sp-a"; walk_at "sp-m1"; walk_at "sp-m2"; (case hne => walk_at "sp-ne"); walk_at "sp-z"; intro t' h' tk' hO' F' N'; walk_at "sp-n")))
  (k_with "call ref" => (k_here; k_dflt ( (with_reducible show wpAny _ _ (call (Value.ref 190) _ _) _ _ _); refine' spec_callC (as := [_, _]) (first_column_spec  ?hne) ?B ?F ?X ?T ?N ?hA ?hh ?hf ?hk (sub_cons ?m1 (sub_cons ?m2 sub_nil)) ?has ?hrest ?hd ?hu ?_; walk_at "sp-a"; walk_at "sp-m1"; walk_at "sp-m2"; (case hne => walk_at "sp-ne"); walk_at "sp-z"; intro t' h' tk' hO' F' N'; walk_at "sp-n")))
  (k_with "call ref" => (k_here; k_dflt ( (with_reducible show wpAny _ _ (call (Value.ref 197) _ _) _ _ _); refine' spec_callC (as := [_, _]) (last_column_spec  ?hne) ?B ?F ?X ?T ?N ?hA ?hh ?hf ?hk (sub_cons ?m1 (sub_cons ?m2 sub_nil)) ?has ?hrest ?hd ?hu ?_; walk_at "sp-a"; walk_at "sp-m1"; walk_at "sp-m2"; (case hne => walk_at "sp-ne"); walk_at "sp-z"; intro t' h' tk' hO' F' N'; walk_at "sp-n")))
  (k_with "e-same" => (refine' SpecEnd.introC ((_, _) :: (_, _) :: (_, _) :: (_, _) :: (_, _) :: (_, _) :: (_, _) :: (_, _) :: [(_, _)]) ?F ?N ?hs rfl rfl (fun _ k => k); walk_at "sp-e"))
  have n1 := And.left hn
  have n2 := And.left (And.right hn)
  have n3 := And.left (And.right (And.right hn))
  have n4 := And.left (And.right (And.right (And.right hn)))
  have n5 := And.left (And.right (And.right (And.right (And.right hn))))
  have n6 := And.left (And.right (And.right (And.right (And.right (And.right hn)))))
  have n7 := And.left (And.right (And.right (And.right (And.right (And.right (And.right hn))))))
  have n8 := And.left (And.right (And.right (And.right (And.right (And.right (And.right (And.right hn)))))))
  clear hn
  refine hW _ ?_; clear hW; intro o1 o2 o3 o4 o5 o6 o7 o8 hW
  k_fill
  refine' spec_enter (binds := [(Str.ofString "cursor", .ref cu), (Str.ofString "margins", .ref ma), (Str.ofString "tabs", .ref ta), (Str.ofString "own", .ref ow)]) ?ko ?kcd ?kb ?kl ?k1 ?_ ?kc ?c1 ?c2 ?c3
  (case ko => k_dflt k_is)
  (case kcd => k_dflt k_is)
  (case c1 => rfl)
  (case c2 => rfl)
  (case c3 => rfl)
  (case kb => (intro s hX; first | exact BindsTo.of_eq rfl | (k_dflt (refine' binds_K hX ?b1 ?b2 ?b3 ?b4 ?b5; (case b1 => exact rfl); (case b2 => k_is); (case b3 => exact rfl); (case b4 => exact rfl); (case b5 => exact rfl)))))
  (case kl => exact locs rfl)
  (case k1 => decide)
  (case kc => decide)
  intro p loose mean mg mb dp un gd outer A₀ base g s L' h₁ hd hu B F N X T
  (try dsimp only)
  (try k_fold)
  k_steps
  all_goals (try dsimp only); (try k_unfold); (try dsimp only)
  all_goals walk_at "e-same"
set_option maxRecDepth 100000 in
set_option maxHeartbeats 2000000 in
theorem same_false (w : World) (ow : Addr) (oW : Obj) (rows cols top left bottom right row col : Int) (wait : Bool) (ol : Addr) (vs : List Value) (vc : Nat) (ks : List Int) (cu dcu : Addr) (cc : CK) (tr tx : Tok) (ma dma : Addr) (mc : MK) (m1 m2 m3 m4 m5 m6 : Tok) (ta dta st : Addr) (tc : TK) (tq : Tok) (oS : Obj) (hn : Dist [ow, ol, cu, dcu, ma, dma, ta, dta, st]) (hW : OwnIs w oW rows cols top left bottom right row col wait false ol)
    (hS : Keys w oS ks) (hlo : (st == sysModules) = false) (hI2 : IntsAre vs ks) (hL2 : ks.length ≤ 3) (hs : ks.Pairwise (· < ·)) :
    Spec PySem.Challenge.rw_og0257_01.row.prog w (hd.heap_1 w.params) 20 446 [.ref cu, .ref ma, .ref ta, .ref ow] [(ow, oW), (ol, lsc vs vc), (cu, instObj 74 dcu), (dcu, curD cc (.int row tr) (.int col tx) (.bool wait) (.bool false)), (ma, instObj 207 dma), (dma, marD mc (.int rows m1) (.int cols m2) (.int top m3) (.int bottom m4) (.int left m5) (.int right m6)), (ta, instObj 362 dta), (dta, tabD tc (.int cols tq) (.ref st)), (st, oS)]
      (Cps fun G => G (.bool true) [(ow, oW), (ol, lsc vs vc), (cu, instObj 74 dcu), (dcu, curD cc (.int row tr) (.int col tx) (.bool wait) (.bool false)), (ma, instObj 207 dma), (dma, marD mc (.int rows m1) (.int cols m2) (.int top m3) (.int bottom m4) (.int left m5) (.int right m6)), (ta, instObj 362 dta), (dta, tabD tc (.int cols tq) (.ref st)), (st, oS)]) := by
  k_with_none
  (k_with "call ref" => (k_here; k_dflt ( (with_reducible show wpAny _ _ (call (Value.ref 323) _ _) _ _ _); refine' spec_callC (as := [_, _, _]) (told_spec  ?hn ?hS ?hlo ?hlen ?hs) ?B ?F ?X ?T ?N ?hA ?hh ?hf ?hk (sub_cons ?m1 (sub_cons ?m2 (sub_cons ?m3 sub_nil))) ?has ?hrest ?hd ?hu ?_; walk_at "sp-a"; walk_at "sp-m1"; walk_at "sp-m2"; walk_at "sp-m3"; (case hS => k_asm); (case hlo => k_asm); (case hn => walk_at "sp-dist"); (case hlen => walk_at "sp-om"); (case hs => assumption); walk_at "sp-z"; intro D' ys' n' hI' hd1' hd2' hd3' h' tk' hO' F' N'; have hN' := hO' _ (List.Mem.head _); dsimp only [List.map] at hN'; walk_at "sp-n")))
  (k_with "call ref" => (k_here; k_dflt ( (with_reducible show wpAny _ _ (call (Value.ref 401) _ _) _ _ _); refine' spec_callC (as := [_]) (limits_spec  ?hW) ?B ?F ?X ?T ?N ?hA ?hh ?hf ?hk (sub_cons ?m1 sub_nil) ?has ?hrest ?hd ?hu ?_; walk_at "sp-a"; walk_at "sp-m1"; (case hW => exact own_mk (by k_asm) rfl rfl rfl rfl rfl rfl rfl rfl); walk_at "sp-z"; intro tp' hne' t1' t2' t3' t4' h' tk' hO' F' N'; have hN' := hO' _ (List.Mem.head _); dsimp only [List.map] at hN'; walk_at "sp-n")))
  (k_with "call ref" => (k_here; k_dflt ( (with_reducible show wpAny _ _ (call (Value.ref 176) _ _) _ _ _); refine' spec_callC (as := [_, _]) (first_row_spec  ?hne) ?B ?F ?X ?T ?N ?hA ?hh ?hf ?hk (sub_cons ?m1 (sub_cons ?m2 sub_nil)) ?has ?hrest ?hd ?hu ?_; walk_at "sp-a"; walk_at "sp-m1"; walk_at "sp-m2"; (case hne => walk_at "sp-ne"); walk_at "sp-z"; intro t' h' tk' hO' F' N'; walk_at "sp-n")))
  (k_with "call ref" => (k_here; k_dflt ( (with_reducible show wpAny _ _ (call (Value.ref 183) _ _) _ _ _); refine' spec_callC (as := [_, _]) (last_row_spec  ?hne) ?B ?F ?X ?T ?N ?hA ?hh ?hf ?hk (sub_cons ?m1 (sub_cons ?m2 sub_nil)) ?has ?hrest ?hd ?hu ?_; walk_at "sp-a"; walk_at "sp-m1"; walk_at "sp-m2"; (case hne => walk_at "sp-ne"); walk_at "sp-z"; intro t' h' tk' hO' F' N'; walk_at "sp-n")))
  (k_with "call ref" => (k_here; k_dflt ( (with_reducible show wpAny _ _ (call (Value.ref 190) _ _) _ _ _); refine' spec_callC (as := [_, _]) (first_column_spec  ?hne) ?B ?F ?X ?T ?N ?hA ?hh ?hf ?hk (sub_cons ?m1 (sub_cons ?m2 sub_nil)) ?has ?hrest ?hd ?hu ?_; walk_at "sp-a"; walk_at "sp-m1"; walk_at "sp-m2"; (case hne => walk_at "sp-ne"); walk_at "sp-z"; intro t' h' tk' hO' F' N'; walk_at "sp-n")))
  (k_with "call ref" => (k_here; k_dflt ( (with_reducible show wpAny _ _ (call (Value.ref 197) _ _) _ _ _); refine' spec_callC (as := [_, _]) (last_column_spec  ?hne) ?B ?F ?X ?T ?N ?hA ?hh ?hf ?hk (sub_cons ?m1 (sub_cons ?m2 sub_nil)) ?has ?hrest ?hd ?hu ?_; walk_at "sp-a"; walk_at "sp-m1"; walk_at "sp-m2"; (case hne => walk_at "sp-ne"); walk_at "sp-z"; intro t' h' tk' hO' F' N'; walk_at "sp-n")))
  (k_with "e-same" => (refine' SpecEnd.introC ((_, _) :: (_, _) :: (_, _) :: (_, _) :: (_, _) :: (_, _) :: (_, _) :: (_, _) :: [(_, _)]) ?F ?N ?hs rfl rfl (fun _ k => k); walk_at "sp-e"))
  have n1 := And.left hn
  have n2 := And.left (And.right hn)
  have n3 := And.left (And.right (And.right hn))
  have n4 := And.left (And.right (And.right (And.right hn)))
  have n5 := And.left (And.right (And.right (And.right (And.right hn))))
  have n6 := And.left (And.right (And.right (And.right (And.right (And.right hn)))))
  have n7 := And.left (And.right (And.right (And.right (And.right (And.right (And.right hn))))))
  have n8 := And.left (And.right (And.right (And.right (And.right (And.right (And.right (And.right hn)))))))
  clear hn
  refine hW _ ?_; clear hW; intro o1 o2 o3 o4 o5 o6 o7 o8 hW
  k_fill
  refine' spec_enter (binds := [(Str.ofString "cursor", .ref cu), (Str.ofString "margins", .ref ma), (Str.ofString "tabs", .ref ta), (Str.ofString "own", .ref ow)]) ?ko ?kcd ?kb ?kl ?k1 ?_ ?kc ?c1 ?c2 ?c3
  (case ko => k_dflt k_is)
  (case kcd => k_dflt k_is)
  (case c1 => rfl)
  (case c2 => rfl)
  (case c3 => rfl)
  (case kb => (intro s hX; first | exact BindsTo.of_eq rfl | (k_dflt (refine' binds_K hX ?b1 ?b2 ?b3 ?b4 ?b5; (case b1 => exact rfl); (case b2 => k_is); (case b3 => exact rfl); (case b4 => exact rfl); (case b5 => exact rfl)))))
  (case kl => exact locs rfl)
  (case k1 => decide)
  (case kc => decide)
  intro p loose mean mg mb dp un gd outer A₀ base g s L' h₁ hd hu B F N X T
  (try dsimp only)
  (try k_fold)
  k_steps
  all_goals (try dsimp only); (try k_unfold); (try dsimp only)
  all_goals walk_at "e-same"
theorem same_spec {w : World} {ow : Addr} {oW : Obj} {rows cols top left bottom right row col : Int} {wait org : Bool} {ol : Addr} {vs : List Value} {vc : Nat} {ks : List Int} {cu dcu : Addr} {cc : CK} {tr tx : Tok} {ma dma : Addr} {mc : MK} {m1 m2 m3 m4 m5 m6 : Tok} {ta dta st : Addr} {tc : TK} {tq : Tok} {oS : Obj} (hn : Dist [ow, ol, cu, dcu, ma, dma, ta, dta, st]) (hW : OwnIs w oW rows cols top left bottom right row col wait org ol)
    (hS : Keys w oS ks) (hlo : (st == sysModules) = false) (hI2 : IntsAre vs ks) (hL2 : ks.length ≤ 3) (hs : ks.Pairwise (· < ·)) :
    Spec PySem.Challenge.rw_og0257_01.row.prog w (hd.heap_1 w.params) 20 446 [.ref cu, .ref ma, .ref ta, .ref ow] [(ow, oW), (ol, lsc vs vc), (cu, instObj 74 dcu), (dcu, curD cc (.int row tr) (.int col tx) (.bool wait) (.bool org)), (ma, instObj 207 dma), (dma, marD mc (.int rows m1) (.int cols m2) (.int top m3) (.int bottom m4) (.int left m5) (.int right m6)), (ta, instObj 362 dta), (dta, tabD tc (.int cols tq) (.ref st)), (st, oS)]
      (Cps fun G => G (.bool true) [(ow, oW), (ol, lsc vs vc), (cu, instObj 74 dcu), (dcu, curD cc (.int row tr) (.int col tx) (.bool wait) (.bool org)), (ma, instObj 207 dma), (dma, marD mc (.int rows m1) (.int cols m2) (.int top m3) (.int bottom m4) (.int left m5) (.int right m6)), (ta, instObj 362 dta), (dta, tabD tc (.int cols tq) (.ref st)), (st, oS)]) := by
  cases org with
  | true => exact same_true w ow oW rows cols top left bottom right row col wait ol vs vc ks cu dcu cc tr tx ma dma mc m1 m2 m3 m4 m5 m6 ta dta st tc tq oS hn hW hS hlo hI2 hL2 hs
  | false => exact same_false w ow oW rows cols top left bottom right row col wait ol vs vc ks cu dcu cc tr tx ma dma mc m1 m2 m3 m4 m5 m6 ta dta st tc tq oS hn hW hS hlo hI2 hL2 hs
end
section
theorem Hold.into {P : Prop} (h : P) : Hold P := h
theorem lt_of_le_nodup {ks : List Int} (h : ks.Pairwise (· ≤ ·)) (hn : ks.Nodup) : ks.Pairwise (· < ·) := (h.and hn).imp fun x => by have := x.1; have := x.2; omega
theorem off1_not {D : Addr} : ∀ {l : Led}, LCg.Off1 D l → NotIn D (l.map (·.1))
  | [], _ => True.intro
  | _ :: _, h => ⟨Ne.symm h.1, off1_not h.2⟩
def StateH (w : World) (dk lc ow cu dcu ma dma ta dta : Addr) (ys : List Value) (cc : CK) (mc : MK) (tc : TK) (rows cols lo hi : Int) (G : Led → Prop) : Prop :=
  ∀ (oD : Obj) (a : Int) (oW : Obj) (top left bottom right row col : Int) (wait org : Bool) (ol : Addr) (vs : List Value) (vc : Nat) (ks : List Int) (tr tx m1 m2 m3 m4 m5 m6 : Tok) (st : Addr) (tq : Tok) (oS : Obj),
    DeckIs w oD lc a → lo ≤ a → a ≤ hi → OwnIs w oW rows cols top left bottom right row col wait org ol →
    Mg rows cols top left bottom right → Bd rows cols top left bottom right row col org → Keys w oS ks → (st == sysModules) = false → IntsAre vs ks → ks.length ≤ 3 → ks.Pairwise (· < ·) → Dist [dk, lc, ow, ol, cu, dcu, ma, dma, ta, dta, st] →
    G [(dk, oD), (lc, LCg.lst ys), (ow, oW), (ol, lsc vs vc), (cu, instObj 74 dcu), (dcu, curD cc (.int row tr) (.int col tx) (.bool wait) (.bool org)), (ma, instObj 207 dma), (dma, marD mc (.int rows m1) (.int cols m2) (.int top m3) (.int bottom m4) (.int left m5) (.int right m6)), (ta, instObj 362 dta), (dta, tabD tc (.int cols tq) (.ref st)), (st, oS)]
theorem bd_go {rows cols top left bottom right row col : Int} {org : Bool} (m : Mg rows cols top left bottom right) (h1 : org = true → top ≤ row ∧ row ≤ bottom ∧ left ≤ col ∧ col ≤ right) (h2 : org = false → 0 ≤ row ∧ row < rows ∧ 0 ≤ col ∧ col < cols) :
    Bd rows cols top left bottom right row col org := by
  obtain ⟨g1, g2, g3, g4, g5, g6, g7, g8, g9, g10⟩ := m
  cases org
  · obtain ⟨a, b, c, d⟩ := h2 rfl
    exact ⟨a, b, c, d, fun o => by cases o⟩
  · obtain ⟨a, b, c, d⟩ := h1 rfl
    exact ⟨by omega, by omega, by omega, by omega, fun _ => ⟨a, b, c, d⟩⟩
theorem bd_wait {rows cols top left bottom right row col x : Int} {org : Bool} (m : Mg rows cols top left bottom right) (h : Bd rows cols top left bottom right row col org) (hx : x = right ∨ (org = false ∧ x = cols - 1)) :
    Bd rows cols top left bottom right row x org := by
  obtain ⟨g1, g2, g3, g4, g5, g6, g7, g8, g9, g10⟩ := m
  obtain ⟨b1, b2, b3, b4, b5⟩ := h
  rcases hx with rfl | ⟨rfl, rfl⟩
  · exact ⟨b1, b2, by omega, by omega, fun o => by have := b5 o; omega⟩
  · exact ⟨b1, b2, by omega, by omega, fun o => by cases o⟩
theorem mg_mk {rows cols top left bottom right : Int} (h1 : 2 ≤ rows) (h2 : rows < 100) (h3 : 3 ≤ cols) (h4 : cols < 100) (h5 : 0 ≤ top) (h6 : top < bottom) (h7 : bottom < rows) (h8 : 0 ≤ left) (h9 : left < right) (h10 : right < cols) : Mg rows cols top left bottom right :=
  ⟨h1, h2, h3, h4, h5, h6, h7, h8, h9, h10⟩
theorem rng_nat {h : Heap} {r : Addr} {b : Int} {t u v : Tok} (_ : IsRange h r 0 b 1 t u v) (h0 : 0 ≤ b) (h1 : b < 4) : ∃ n : Nat, b = n ∧ n < 4 := ⟨b.toNat, by omega, by omega⟩
def DrawnJ (w : World) (dk lc : Addr) (cols a : Int) (rest : Led) (i : Nat) (G : VLed) : Prop :=
  ∀ (oD : Obj) (a' : Int) (ns : List Int) (vs : List Value), DeckIs w oD lc a' → a ≤ a' → a' ≤ a + (i : Int) → IntsAre vs ns → ns.length = i → (∀ x ∈ ns, 0 ≤ x ∧ x < cols) → G vs ((dk, oD) :: rest)
theorem drawn_next {w : World} {dk lc : Addr} {cols a a' x st : Int} {rest : Led} {i : Nat} {vs : List Value} {ns : List Int} {oD : Obj} {t ta ts : Tok}
    (hD : oD.IsDictOf (PySem.strKind PySem.Challenge.rw_og0257_01.row.prog w) [((Str.ofString "cells"), .ref lc), ((Str.ofString "at"), .int (a' + 1) ta), ((Str.ofString "stir"), .int st ts)]) (h1 : 0 ≤ st) (h2 : st < 8191) (hI : IntsAre vs ns) (hl : ns.length = i) (hx : ∀ x ∈ ns, 0 ≤ x ∧ x < cols)
    (h3 : a ≤ a' + 1) (h4 : a' + 1 ≤ a + ((i + 1 : Nat) : Int)) (h5 : 0 ≤ x) (h6 : x < cols) : ∀ G : VLed, DrawnJ w dk lc cols a rest (i + 1) G → G (vs ++ [.int x t]) ((dk, oD) :: rest) := fun _ k => by
  refine k oD (a' + 1) (ns ++ [x]) _ (deck_mk hD h1 h2 rfl) h3 h4 (IntsAre.append hI (.cons x t .nil)) (by rw [List.length_append, hl]; rfl) (fun y hy => ?_)
  rcases List.mem_append.mp hy with hy | hy
  · exact hx y hy
  · obtain rfl := List.mem_singleton.mp hy
    exact ⟨h5, h6⟩
def StopsJ (ns : List Int) (nw₀ : Led) (i : Nat) (G : VLed) : Prop := ∀ (ks : List Int) (ys : List Value), IntsAre ys ks → ks.Nodup → (∀ x ∈ ks, x ∈ ns.take i) → ks.length ≤ i → G ys nw₀
theorem stops_no {ns : List Int} {nw₀ : Led} {i : Nat} {ys : List Value} {ks : List Int} (hI : IntsAre ys ks) (hn : ks.Nodup) (hs : ∀ x ∈ ks, x ∈ ns.take i) (hl : ks.length ≤ i) : ∀ G : VLed, StopsJ ns nw₀ (i + 1) G → G ys nw₀ :=
  fun _ k => k ks _ hI hn (fun x hx => List.take_subset_take_left ns (Nat.le_succ i) (hs x hx)) (Nat.le_succ_of_le hl)
theorem stops_yes {ns : List Int} {nw₀ : Led} {i : Nat} {ys : List Value} {ks : List Int} {k : Int} {t : Tok} (hb : ((ns.take (i : Int).toNat).any fun x => x == k) = false) (hk : ns[i]? = some k) (hI : IntsAre ys ks) (hn : ks.Nodup) (hs : ∀ x ∈ ks, x ∈ ns.take i) (hl : ks.length ≤ i) :
    ∀ G : VLed, StopsJ ns nw₀ (i + 1) G → G (ys ++ [.int k t]) nw₀ := fun _ kk => by
  have e : (i : Int).toNat = i := by omega
  rw [e, List.any_eq_false] at hb
  have hk' : k ∉ ks := fun h => hb k (hs k h) (by simp)
  have ht : ns.take (i + 1) = ns.take i ++ [k] := by
    rw [List.take_add_one, hk]; rfl
  refine kk (ks ++ [k]) _ (IntsAre.append hI (.cons k t .nil)) ?_ (fun x hx => ?_) ?_
  · refine List.nodup_append.mpr ⟨hn, by simp, fun a ha b hb' => ?_⟩
    obtain rfl := List.mem_singleton.mp hb'
    exact fun e => hk' (e ▸ ha)
  · rw [ht]
    rcases List.mem_append.mp hx with hx | hx
    · exact List.mem_append_left _ (hs x hx)
    · exact List.mem_append_right _ hx
  · rw [List.length_append]; exact Nat.succ_le_succ hl
end
section
section
variable {prog : Program} {w : World} {A : Around} {E : Value → Shared → Prop} {s : Shared} {env : Env} {h₀ : Heap} {x : Str} {body : List Stmt} {Q : Flow → Shared → Prop}
theorem step_loop {r : Addr} {a₀ b₀ c : Int} {t₀ u₀ v₀ : Tok} {n : Nat} {m₀ : Str → Option Value} {news : Led} (J : Nat → (Str → Option Value) → Led → Prop)
    (hh : A.handled = none) (hr : IsRange s.heap r a₀ b₀ c t₀ u₀ v₀) (hsmall : Builtin.Range.small a₀ b₀ c = true) (hn : Builtin.Range.rangeSize a₀ b₀ c = (n : Int)) (F : Fr h₀ env.locals s.heap m₀) (N : News h₀ env.locals s.heap news) (hJ : J 0 m₀ news)
    (turn : ∀ i m news t h tk I it, i < n → J i m news → NotIn I (news.map (·.1)) → Fr h₀ env.locals h (fun y => if y = x then some (.int (a₀ + (i : Int) * c) t) else m y) → News h₀ env.locals h ((I, it) :: news) →
      wpAny (model prog w) A (execs body env) (TurnEnd h₀ env.locals { s with heap := h, toks := tk } I it (J (i + 1)) Q) E { s with heap := h, toks := tk })
    (done : ∀ m news h tk, J n m news → Fr h₀ env.locals h m → News h₀ env.locals h news → Q .next { s with heap := h, toks := tk }) :
    wpAny (model prog w) A (pyIter (.ref r)) (fun it s₂ => LoopAtV prog w A h₀ env x body Q E it s₂) E s := by
  refine krs_iter (n := n) hh hr hsmall hn F N fun I hI => ?_
  have all : ∀ k i m news, i + k = n → J i m news → NotIn I (news.map (·.1)) → KrsRest prog w A E h₀ env x body Q s I a₀ c n k i m news := by
    intro k
    induction k with
    | zero =>
      intro i m nx hi hj _
      obtain rfl : i = n := by omega
      exact KrsRest.zero fun h tk F' N' => done m nx h tk hj F' N'
    | succ k ih =>
      intro i m nx hi hj hI'
      refine KrsRest.succ rfl fun t h tk F' N' => wpAny_mono (turn i m nx t h tk I _ (by omega) hj hI' F' N') (fun f s₂ q => ?_) fun _ _ e => e
      cases f with
      | ret v => exact q
      | brk => exact q
      | next => obtain ⟨h', tk', m', news', e, F₂, N₂, hn', hj'⟩ := q; exact ⟨h', tk', m', news', e, F₂, N₂, notIn_ne hn', ih (i + 1) m' news' (by omega) hj' hn'⟩
      | cont => obtain ⟨h', tk', m', news', e, F₂, N₂, hn', hj'⟩ := q; exact ⟨h', tk', m', news', e, F₂, N₂, notIn_ne hn', ih (i + 1) m' news' (by omega) hj' hn'⟩
  exact all n 0 m₀ news (by omega) hJ (notIn_of fun q hq => Ne.symm (Nat.ne_of_lt (hI q hq)))
theorem step_loopC {r : Addr} {a₀ b₀ c : Int} {t₀ u₀ v₀ : Tok} {n : Nat} {m₀ : Str → Option Value} {news : Led} (J : Nat → MLed → Prop)
    (hh : A.handled = none) (hr : IsRange s.heap r a₀ b₀ c t₀ u₀ v₀) (hsmall : Builtin.Range.small a₀ b₀ c = true) (hn : Builtin.Range.rangeSize a₀ b₀ c = (n : Int)) (F : Fr h₀ env.locals s.heap m₀) (N : News h₀ env.locals s.heap news) (hJ : ∀ G : MLed, J 0 G → G m₀ news)
    (turn : ∀ i t h tk I it, i < n → J i fun m news => NotIn I (news.map (·.1)) → Fr h₀ env.locals h (fun y => if y = x then some (.int (a₀ + (i : Int) * c) t) else m y) → News h₀ env.locals h ((I, it) :: news) →
      wpAny (model prog w) A (execs body env) (TurnEnd h₀ env.locals { s with heap := h, toks := tk } I it (fun m' news' => ∀ G : MLed, J (i + 1) G → G m' news') Q) E { s with heap := h, toks := tk })
    (done : ∀ h tk, J n fun m news => Fr h₀ env.locals h m → News h₀ env.locals h news → Q .next { s with heap := h, toks := tk }) :
    wpAny (model prog w) A (pyIter (.ref r)) (fun it s₂ => LoopAtV prog w A h₀ env x body Q E it s₂) E s :=
  step_loop (fun i m news => ∀ G : MLed, J i G → G m news) hh hr hsmall hn F N hJ (fun i _ _ t h tk I it hi hj hI F N => hj _ (turn i t h tk I it hi) hI F N) (fun _ _ h tk hj F N => hj _ (done h tk) F N)
end
theorem eights_size {cols : Int} (h : 3 ≤ cols) : Builtin.Range.rangeSize 8 cols 8 = (((cols - 1) / 8).toNat : Int) := by
  unfold Builtin.Range.rangeSize
  simp only [show (8 : Int) > 0 by decide, if_true]
  split <;> omega
theorem eights_small {cols : Int} (h : 3 ≤ cols) (h2 : cols < 100) : Builtin.Range.small 8 cols 8 = true := by
  unfold Builtin.Range.small
  rw [eights_size h]
  simp only [Builtin.Range.rangeFitsLong, Bool.and_eq_true, Bool.or_eq_true, decide_eq_true_eq, beq_iff_eq]
  have h5 : ((cols - 1) / 8).toNat ≤ 13 := by omega
  generalize ((cols - 1) / 8).toNat = k at h5
  refine ⟨⟨⟨⟨⟨by decide, by decide⟩, by omega, by omega⟩, by decide, by decide⟩, by omega, by omega⟩, .inr ?_⟩
  rw [if_pos (by decide), Bool.and_eq_true, decide_eq_true_eq, decide_eq_true_eq]
  exact ⟨by omega, by omega⟩
theorem eights_succ (i : Nat) : rangeInts 8 8 (i + 1) = rangeInts 8 8 i ++ [8 + (i : Int) * 8] := by
  unfold rangeInts
  rw [List.range_succ, List.map_append]
  rfl
theorem eights_not (i : Nat) : (8 + (i : Int) * 8) ∉ rangeInts 8 8 i := fun h => by
  obtain ⟨j, hj, e⟩ := List.mem_map.mp h
  have := List.mem_range.mp hj
  omega
theorem eights_lt (n : Nat) : (rangeInts 8 8 n).Pairwise (· < ·) := by
  unfold rangeInts
  rw [List.pairwise_map]
  exact List.pairwise_lt_range.imp fun h => by omega
local macro_rules | `(tactic| walk_at "pyIter ref") => `(tactic| (k_here; refine Hold.out ?_))
local macro_rules | `(tactic| walk_at "setItem ref int") => `(tactic| (k_here; k_dflt (refine' set_keys ?F ?N ?U ?d ?y ?l ?_; (case F => k_asm); (case N => k_asm); (case U => k_updF); (case d => k_asm); (case y => assumption); (case l => assumption)); intro h' o' F' N' hd'; (try dsimp only at N'); (try k_sweep)))
def EgJ (w : World) (m₀ : Str → Option Value) (ta dta st : Addr) (tc : TK) (cols : Int) (tq : Tok) (i : Nat) (G : MLed) : Prop :=
  ∀ (u : Option Value) (oS : Obj), Keys w oS (rangeInts 8 8 i) → G (fun z => if z = (Str.ofString "column") then u else m₀ z) [(ta, instObj 362 dta), (dta, tabD tc (.int cols tq) (.ref st)), (st, oS)]
theorem egJ_mk {w : World} {m₀ m : Str → Option Value} {ta dta st : Addr} {tc : TK} {cols : Int} {tq : Tok} {i : Nat} {u : Option Value} {oS : Obj} (e : m = (fun z => if z = (Str.ofString "column") then u else m₀ z)) (h : Keys w oS (rangeInts 8 8 i)) : ∀ G : MLed, EgJ w m₀ ta dta st tc cols tq i G → G m [(ta, instObj 362 dta), (dta, tabD tc (.int cols tq) (.ref st)), (st, oS)] := by subst e; exact fun _ k => k _ _ h
set_option maxRecDepth 100000 in
set_option maxHeartbeats 2000000 in
theorem eighths_spec {w : World} {ta dta st : Addr} {tc : TK} {cols : Int} {tq : Tok} {oS : Obj} {t0 : Tok} (hn : Dist [ta, dta, st]) (hS : Keys w oS []) (hlo : (st == sysModules) = false) (h3 : 3 ≤ cols) (h4 : cols < 100) :
    Spec PySem.Challenge.rw_og0257_01.row.prog w (hd.heap_1 w.params) 3 288 [.ref ta, .int 0 t0] [(ta, instObj 362 dta), (dta, tabD tc (.int cols tq) (.ref st)), (st, oS)]
      (Cps fun G => ∀ (oS' : Obj), (Keys w oS' (rangeInts 8 8 ((cols - 1) / 8).toNat)) → G .none [(ta, instObj 362 dta), (dta, tabD tc (.int cols tq) (.ref st)), (st, oS')]) := by
  k_with_none
  (k_with "e-egturn" => ( refine' TurnEnd.intro [(_, _), (_, _), (_, _)] ?F ?N ?hi ?hs ?hn (egJ_mk ?e1 ?hS); (case F => assumption); (case N => assumption); (case hi => k_mem); (case e1 => exact bind_turn' _ _ _ _); (case hs => walk_at "sp-sub"); (case hS => rw [eights_succ]; assumption); (case hn => assumption)))
  (k_with "e-eg" => (refine' SpecEnd.introC [(_, _), (_, _), (_, _)] ?F ?N ?hs rfl rfl (fun _ k => k _ ?hS); walk_at "sp-e"; (case hS => assumption)))
  have n1 := And.left hn
  have n2 := And.left (And.right hn)
  clear hn
  k_fill
  refine' spec_enter (binds := [(Str.ofString "self", .ref ta), (Str.ofString "begin", .int 0 t0)]) ?ko ?kcd ?kb ?kl ?k1 ?_ ?kc ?c1 ?c2 ?c3
  (case ko => k_dflt k_is)
  (case kcd => k_dflt k_is)
  (case c1 => rfl)
  (case c2 => rfl)
  (case c3 => rfl)
  (case kb => (intro s hX; first | exact BindsTo.of_eq rfl | (k_dflt (refine' binds_K hX ?b1 ?b2 ?b3 ?b4 ?b5; (case b1 => exact rfl); (case b2 => k_is); (case b3 => exact rfl); (case b4 => exact rfl); (case b5 => exact rfl)))))
  (case kl => exact locs rfl)
  (case k1 => decide)
  (case kc => decide)
  intro p loose mean mg mb dp un gd outer A₀ base g s L' h₁ hd hu B F N X T
  (try dsimp only)
  (try k_fold)
  k_steps
  rename Fr _ _ _ _ => F'
  rename News _ _ _ _ => N'
  rename IsRange _ _ _ _ _ _ _ _ => hR
  refine step_loopC (x := (Str.ofString "column")) (EgJ w _ ta dta st tc cols tq) rfl hR (eights_small h3 h4) (eights_size h3) F' (cb_drop N' ?_) (egJ_mk (bind_here' _ _) hS) ?_ ?_
  · walk_at "sp-sub"
  all_goals clear F' N' hS
  · intro i t h tk I it hi u oS hS hI' F₁ N₁
    dsimp only [List.map] at hI'
    have hx := eights_not i
    have hlen' : (rangeInts 8 8 i).length < 64 := by rw [rangeInts_length]; omega
    (try dsimp only)
    (try k_fold)
    k_steps
    all_goals (try dsimp only); (try k_unfold); (try dsimp only)
    all_goals walk_at "e-egturn"
  · intro h tk u oS hS F₁ N₁
    (try dsimp only)
    (try k_fold)
    k_steps
    all_goals (try dsimp only); (try k_unfold); (try dsimp only)
    all_goals walk_at "e-eg"
end
section
set_option maxRecDepth 100000 in
set_option maxHeartbeats 2000000 in
theorem cursor_init {w : World} {cu dcu : Addr} (hne : cu ≠ dcu) :
    Spec PySem.Challenge.rw_og0257_01.row.prog w (hd.heap_1 w.params) 2 43 [.ref cu] [(cu, instObj 74 dcu), (dcu, dictOf [] 0)] (Cps fun G => ∀ (cc : CK) (t1 t2 : Tok), G .none [(cu, instObj 74 dcu), (dcu, curD cc (.int 0 t1) (.int 0 t2) (.bool false) (.bool false))]) := by
  k_with_none
  (k_with "call ref" => (k_here; k_dflt ( (with_reducible show wpAny _ _ (call (Value.ref 288) _ _) _ _ _); refine' spec_callC (as := [_, _, _]) (eighths_spec (tc := (⟨_, _, _, _⟩ : TK)) ?hn ?hS ?hlo ?h3 ?h4) ?B ?F ?X ?T ?N ?hA ?hh ?hf ?hk (sub_cons ?m1 (sub_cons ?m2 (sub_cons ?m3 sub_nil))) ?has ?hrest ?hd ?hu ?_; walk_at "sp-a"; walk_at "sp-m1"; walk_at "sp-m2"; walk_at "sp-m3"; (case hS => k_asm); (case hlo => k_asm); (case hn => walk_at "sp-dist"); (case h3 => walk_at "sp-om"); (case h4 => walk_at "sp-om"); walk_at "sp-z"; intro oS' hS' h' tk' hO' F' N'; walk_at "sp-n")))
  (k_with "e-ci" => (refine' SpecEnd.introC [(_, _), (_, curD (CK.mk _ _ _ _ _ _ _ _ _ _ _ _ _ _) (.int 0 _) (.int 0 _) (.bool false) (.bool false))] ?F ?N ?hs rfl rfl (fun _ k => k _ _ _); walk_at "sp-e"))
  k_fill
  refine' spec_enter (binds := [(Str.ofString "self", .ref cu)]) ?ko ?kcd ?kb ?kl ?k1 ?_ ?kc ?c1 ?c2 ?c3
  (case ko => k_dflt k_is)
  (case kcd => k_dflt k_is)
  (case c1 => rfl)
  (case c2 => rfl)
  (case c3 => rfl)
  (case kb => (intro s hX; first | exact BindsTo.of_eq rfl | (k_dflt (refine' binds_K hX ?b1 ?b2 ?b3 ?b4 ?b5; (case b1 => exact rfl); (case b2 => k_is); (case b3 => exact rfl); (case b4 => exact rfl); (case b5 => exact rfl)))))
  (case kl => exact locs rfl)
  (case k1 => decide)
  (case kc => decide)
  intro p loose mean mg mb dp un gd outer A₀ base g s L' h₁ hd hu B F N X T
  (try dsimp only)
  (try k_fold)
  k_steps
  all_goals (try dsimp only); (try k_unfold); (try dsimp only)
  all_goals walk_at "e-ci"
set_option maxRecDepth 100000 in
set_option maxHeartbeats 2000000 in
theorem margins_init {w : World} {ma dma : Addr} {rows cols : Int} {tr tk : Tok} (hne : ma ≠ dma) :
    Spec PySem.Challenge.rw_og0257_01.row.prog w (hd.heap_1 w.params) 2 92 [.ref ma, .int rows tr, .int cols tk] [(ma, instObj 207 dma), (dma, dictOf [] 0)] (Cps fun G => ∀ (mc : MK) (m1 m2 m3 m4 m5 m6 : Tok), G .none [(ma, instObj 207 dma), (dma, marD mc (.int rows m1) (.int cols m2) (.int 0 m3) (.int (rows - 1) m4) (.int 0 m5) (.int (cols - 1) m6))]) := by
  k_with_none
  (k_with "call ref" => (k_here; k_dflt ( (with_reducible show wpAny _ _ (call (Value.ref 288) _ _) _ _ _); refine' spec_callC (as := [_, _, _]) (eighths_spec (tc := (⟨_, _, _, _⟩ : TK)) ?hn ?hS ?hlo ?h3 ?h4) ?B ?F ?X ?T ?N ?hA ?hh ?hf ?hk (sub_cons ?m1 (sub_cons ?m2 (sub_cons ?m3 sub_nil))) ?has ?hrest ?hd ?hu ?_; walk_at "sp-a"; walk_at "sp-m1"; walk_at "sp-m2"; walk_at "sp-m3"; (case hS => k_asm); (case hlo => k_asm); (case hn => walk_at "sp-dist"); (case h3 => walk_at "sp-om"); (case h4 => walk_at "sp-om"); walk_at "sp-z"; intro oS' hS' h' tk' hO' F' N'; walk_at "sp-n")))
  (k_with "e-mi" => (refine' SpecEnd.introC [(_, _), (_, marD (MK.mk _ _ _ _ _ _ _ _ _ _ _ _) (.int _ _) (.int _ _) (.int _ _) (.int _ _) (.int _ _) (.int _ _))] ?F ?N ?hs rfl rfl (fun _ k => k _ _ _ _ _ _ _); walk_at "sp-e"))
  k_fill
  refine' spec_enter (binds := [(Str.ofString "self", .ref ma), (Str.ofString "rows", .int rows tr), (Str.ofString "columns", .int cols tk)]) ?ko ?kcd ?kb ?kl ?k1 ?_ ?kc ?c1 ?c2 ?c3
  (case ko => k_dflt k_is)
  (case kcd => k_dflt k_is)
  (case c1 => rfl)
  (case c2 => rfl)
  (case c3 => rfl)
  (case kb => (intro s hX; first | exact BindsTo.of_eq rfl | (k_dflt (refine' binds_K hX ?b1 ?b2 ?b3 ?b4 ?b5; (case b1 => exact rfl); (case b2 => k_is); (case b3 => exact rfl); (case b4 => exact rfl); (case b5 => exact rfl)))))
  (case kl => exact locs rfl)
  (case k1 => decide)
  (case kc => decide)
  intro p loose mean mg mb dp un gd outer A₀ base g s L' h₁ hd hu B F N X T
  (try dsimp only)
  (try k_fold)
  k_steps
  all_goals (try dsimp only); (try k_unfold); (try dsimp only)
  all_goals walk_at "e-mi"
set_option maxRecDepth 100000 in
set_option maxHeartbeats 2000000 in
theorem tabs_init {w : World} {ta dta : Addr} {cols : Int} {tk : Tok} (h3 : 3 ≤ cols) (h4 : cols < 100) (hne : ta ≠ dta) :
    Spec PySem.Challenge.rw_og0257_01.row.prog w (hd.heap_1 w.params) 5 281 [.ref ta, .int cols tk] [(ta, instObj 362 dta), (dta, dictOf [] 0)] (Cps fun G => ∀ (tc : TK) (tq : Tok) (st : Addr) (oS : Obj), Keys w oS (rangeInts 8 8 ((cols - 1) / 8).toNat) → (st == sysModules) = false → st ≠ ta → st ≠ dta → G .none [(ta, instObj 362 dta), (dta, tabD tc (.int cols tq) (.ref st)), (st, oS)]) := by
  k_with_none
  (k_with "call ref" => (k_here; k_dflt ( (with_reducible show wpAny _ _ (call (Value.ref 288) _ _) _ _ _); refine' spec_callC (as := [_, _, _]) (eighths_spec (tc := (⟨_, _, _, _⟩ : TK)) ?hn ?hS ?hlo ?h3 ?h4) ?B ?F ?X ?T ?N ?hA ?hh ?hf ?hk (sub_cons ?m1 (sub_cons ?m2 (sub_cons ?m3 sub_nil))) ?has ?hrest ?hd ?hu ?_; walk_at "sp-a"; walk_at "sp-m1"; walk_at "sp-m2"; walk_at "sp-m3"; (case hS => k_asm); (case hlo => k_asm); (case hn => walk_at "sp-dist"); (case h3 => walk_at "sp-om"); (case h4 => walk_at "sp-om"); walk_at "sp-z"; intro oS' hS' h' tk' hO' F' N'; walk_at "sp-n")))
  (k_with "e-ti" => (refine' SpecEnd.introC [(_, _), (_, tabD _ (.int _ _) (.ref _)), (_, _)] ?F ?N ?hs rfl rfl (fun _ k => k _ _ _ _ ?hS ?hlo ?n1 ?n2); walk_at "sp-e"; (case hS => assumption); (case hlo => assumption); (case n1 => walk_at "sp-ne"); (case n2 => walk_at "sp-ne")))
  k_fill
  refine' spec_enter (binds := [(Str.ofString "self", .ref ta), (Str.ofString "columns", .int cols tk)]) ?ko ?kcd ?kb ?kl ?k1 ?_ ?kc ?c1 ?c2 ?c3
  (case ko => k_dflt k_is)
  (case kcd => k_dflt k_is)
  (case c1 => rfl)
  (case c2 => rfl)
  (case c3 => rfl)
  (case kb => (intro s hX; first | exact BindsTo.of_eq rfl | (k_dflt (refine' binds_K hX ?b1 ?b2 ?b3 ?b4 ?b5; (case b1 => exact rfl); (case b2 => k_is); (case b3 => exact rfl); (case b4 => exact rfl); (case b5 => exact rfl)))))
  (case kl => exact locs rfl)
  (case k1 => decide)
  (case kc => decide)
  intro p loose mean mg mb dp un gd outer A₀ base g s L' h₁ hd hu B F N X T
  (try dsimp only)
  (try k_fold)
  k_steps
  all_goals (try dsimp only); (try k_unfold); (try dsimp only)
  all_goals walk_at "e-ti"
end
section
local macro_rules | `(tactic| lcg_src) => `(tactic| exact And.intro (by k_mem) (by k_mem))
local macro_rules | `(tactic| walk_at "eval ListComp") => `(tactic| (k_here; (with_reducible show wpAny _ _ (PySem.eval (PySem.Expr.ListComp _ [⟨PySem.Expr.Tuple _ _ _, _, [_], _⟩] _ _) _) _ _ _); k_dflt (refine en_ListComp (_F₀ := by k_asm) (by with_unfolding_all rfl) (by decide) (by rfl) (by decide) (by rfl) (by rfl) (by first | decide | decide +kernel) ?_)))
local macro_rules | `(tactic| walk_at "sp-size") => `(tactic| first | decide | (rw [sizeLine_eq]; omega))
local macro_rules | `(tactic| walk_at "call type:enumerate") => `(tactic| (k_here; k_dflt (refine' en_call ?eh ?eF ?eN ?em ?ez ?_; (case eF => k_asm); (case eN => k_asm); (case eh => rfl); (case em => k_mem); (case ez => walk_at "sp-size")); intro J' g' tk'; refine Hold.out ?_))
local macro_rules | `(tactic| walk_at "FinE") => `(tactic| ((unfold LCg.FinE); intro D' h' tk' F' N' o1'; (replace o1' := off1_not o1'); (dsimp only [List.map] at o1'); (try simp only [List.nil_append, List.cons_append] at N'); (try dsimp only)))
local macro_rules | `(tactic| walk_at "KctRest") => `(tactic| (with_unfolding_all first
  | (refine KctRest.cons ?_; intro t' I' oI' C' oC' D' m' h' tk' E' hC' ha' hb' F' N' off' ne'; (try dsimp only at ha' hb'); (obtain ⟨nI', nC', nD'⟩ := off3_not off' ne'); clear off' ne'; (dsimp only [List.map] at nI' nC' nD'))
  | refine KctRest.nil ?_))
local macro_rules | `(tactic| walk_at "eval ListComp") => `(tactic| (k_here; (with_reducible show wpAny _ _ (PySem.eval (PySem.Expr.ListComp _ [⟨PySem.Expr.Name _ _, _, [], _⟩] _ _) _) _ _ _); k_dflt (refine LCg.ListComp_U (F₀ := by k_asm) (by with_unfolding_all rfl) (by decide) (by rfl) (by decide) (by rfl) ?_)))
local macro_rules | `(tactic| walk_at "CompSrc") => `(tactic| (k_here; refine Hold.out ?_))
set_option maxRecDepth 100000 in
set_option maxHeartbeats 40000000 in
theorem did_spec {w : World} {dk lc : Addr} {oD : Obj} {ys : List Value} {ns : List Int} {a : Int} {ow : Addr} {oW : Obj} {rows cols top left bottom right row col : Int} {wait org : Bool} {ol : Addr} {vs : List Value} {vc : Nat} {ks : List Int} {cu dcu : Addr} {cc : CK} {tr tx : Tok} {ma dma : Addr} {mc : MK} {m1 m2 m3 m4 m5 m6 : Tok} {ta dta st : Addr} {tc : TK} {tq : Tok} {oS : Obj} (hn : Dist [dk, lc, ow, ol, cu, dcu, ma, dma, ta, dta, st]) (hDk : DeckIs w oD lc a) (hI : IntsAre ys ns) (hL : ns.length ≤ 48) (ha0 : 0 ≤ a) (ha1 : a < 800000) (hW : OwnIs w oW rows cols top left bottom right row col wait org ol)
    (hS : Keys w oS ks) (hlo : (st == sysModules) = false) (hI2 : IntsAre vs ks) (hL2 : ks.length ≤ 3) (hp : ks.Pairwise (· < ·)) (hm : Mg rows cols top left bottom right) (hb : Bd rows cols top left bottom right row col org) :
    Spec PySem.Challenge.rw_og0257_01.row.prog w (hd.heap_1 w.params) 14 439 [.ref dk, .ref cu, .ref ma, .ref ta, .ref ow] [(dk, oD), (lc, LCg.lst ys), (ow, oW), (ol, lsc vs vc), (cu, instObj 74 dcu), (dcu, curD cc (.int row tr) (.int col tx) (.bool wait) (.bool org)), (ma, instObj 207 dma), (dma, marD mc (.int rows m1) (.int cols m2) (.int top m3) (.int bottom m4) (.int left m5) (.int right m6)), (ta, instObj 362 dta), (dta, tabD tc (.int cols tq) (.ref st)), (st, oS)]
      (Cps fun G => StateH w dk lc ow cu dcu ma dma ta dta ys cc mc tc rows cols a (a + 20) (fun led => G (.bool true) led)) := by
  k_with_none
  (k_with "call ref" => (k_here; k_dflt ( (with_reducible show wpAny _ _ (call (Value.ref 387) _ _) _ _ _); refine' spec_callC (as := [_, _]) (draw_spec  ?hne ?hDk ?hI ?hl2 ?ha0 ?ha1 ?hs0 ?hs1 ?hb0 ?hb1) ?B ?F ?X ?T ?N ?hA ?hh ?hf ?hk (sub_cons ?m1 (sub_cons ?m2 sub_nil)) ?has ?hrest ?hd ?hu ?_; walk_at "sp-a"; walk_at "sp-m1"; (case hDk => k_asm); walk_at "sp-m2"; (case hne => walk_at "sp-ne"); (case hI => l_ints); (case hl2 => walk_at "sp-len"); (case ha0 => walk_at "sp-om"); (case ha1 => walk_at "sp-om"); (case hs0 => walk_at "sp-om"); (case hs1 => walk_at "sp-om"); (case hb0 => walk_at "sp-om"); (case hb1 => walk_at "sp-om"); walk_at "sp-z"; intro r' t' oD' st' ta' ts' hr0' hr1' hD' hs0' hs1' h' tk' hO' F' N'; walk_at "sp-n")))
  (k_with "call ref" => (k_here; k_dflt ( (with_reducible show wpAny _ _ (call (Value.ref 253) _ _) _ _ _); refine' spec_callC (as := [_, _, _, _]) (homed_spec  ?hn ?hr ?hc ?h1 ?h2) ?B ?F ?X ?T ?N ?hA ?hh ?hf ?hk (sub_cons ?m1 (sub_cons ?m2 (sub_cons ?m3 (sub_cons ?m4 sub_nil)))) ?has ?hrest ?hd ?hu ?_; walk_at "sp-a"; walk_at "sp-m1"; walk_at "sp-m2"; walk_at "sp-m3"; walk_at "sp-m4"; (case hn => walk_at "sp-dist"); (case hr => walk_at "sp-om"); (case hc => walk_at "sp-om"); (case h1 => walk_at "sp-om"); (case h2 => walk_at "sp-om"); walk_at "sp-z"; intro t1' t2' h' tk' hO' F' N'; walk_at "sp-n")))
  (k_with "call ref" => (k_here; k_dflt ( (with_reducible show wpAny _ _ (call (Value.ref 394) _ _) _ _ _); refine' spec_callC (as := [_]) (home_spec  ?hW) ?B ?F ?X ?T ?N ?hA ?hh ?hf ?hk (sub_cons ?m1 sub_nil) ?has ?hrest ?hd ?hu ?_; walk_at "sp-a"; walk_at "sp-m1"; (case hW => exact own_mk (by k_asm) rfl rfl rfl rfl rfl rfl rfl rfl); walk_at "sp-z"; intro oW' hW' h' tk' hO' F' N'; walk_at "sp-ow"; walk_at "sp-n")))
  (k_with "call ref" => (k_here; k_dflt ( (with_reducible show wpAny _ _ (call (Value.ref 413) _ _) _ _ _); refine' spec_callC (as := [_, _, _, _, _]) (lgo_spec  ?hn ?hDk ?hI ?hL ?ha0 ?ha1 ?hW ?hr ?hr2 ?hc ?hc2 ?h1 ?h2 ?h3 ?h4 ?h5 ?h6) ?B ?F ?X ?T ?N ?hA ?hh ?hf ?hk (sub_cons ?m1 (sub_cons ?m2 (sub_cons ?m3 (sub_cons ?m4 (sub_cons ?m5 sub_nil))))) ?has ?hrest ?hd ?hu ?_; walk_at "sp-a"; walk_at "sp-m1"; (case hDk => exact deck_mk (by k_asm) (by walk_at "sp-om") (by walk_at "sp-om") rfl); walk_at "sp-m2"; (case hI => k_asm); (case hL => assumption); (case ha0 => walk_at "sp-om"); (case ha1 => walk_at "sp-om"); walk_at "sp-m3"; (case hW => exact own_mk (by k_asm) rfl rfl rfl rfl rfl rfl rfl rfl); walk_at "sp-m4"; walk_at "sp-m5"; (case hn => walk_at "sp-dist"); (case hr => walk_at "sp-om"); (case hr2 => walk_at "sp-om"); (case hc => walk_at "sp-om"); (case hc2 => walk_at "sp-om"); (case h1 => walk_at "sp-om"); (case h2 => walk_at "sp-om"); (case h3 => walk_at "sp-om"); (case h4 => walk_at "sp-om"); (case h5 => walk_at "sp-om"); (case h6 => walk_at "sp-om"); walk_at "sp-z"; intro oD' a' oW' r' x' t1' t2' hD' ha' hb' hW' hc1' hc2' h' tk' hO' F' N'; walk_at "sp-dk"; walk_at "sp-ow"; walk_at "sp-n")))
  (k_with "call ref" => (k_here; k_dflt ( (with_reducible show wpAny _ _ (call (Value.ref 420) _ _) _ _ _); refine' spec_callC (as := [_, _, _, _, _, _, _]) (lsetm_spec  ?hn ?hDk ?hI ?hL ?ha0 ?ha1 ?hW ?hr ?hr2 ?hc ?hc2) ?B ?F ?X ?T ?N ?hA ?hh ?hf ?hk (sub_cons ?m1 (sub_cons ?m2 (sub_cons ?m3 (sub_cons ?m4 (sub_cons ?m5 (sub_cons ?m6 (sub_cons ?m7 sub_nil))))))) ?has ?hrest ?hd ?hu ?_; walk_at "sp-a"; walk_at "sp-m1"; (case hDk => exact deck_mk (by k_asm) (by walk_at "sp-om") (by walk_at "sp-om") rfl); walk_at "sp-m2"; (case hI => k_asm); (case hL => assumption); (case ha0 => walk_at "sp-om"); (case ha1 => walk_at "sp-om"); walk_at "sp-m3"; (case hW => exact own_mk (by k_asm) rfl rfl rfl rfl rfl rfl rfl rfl); walk_at "sp-m4"; walk_at "sp-m5"; walk_at "sp-m6"; walk_at "sp-m7"; (case hn => walk_at "sp-dist"); (case hr => walk_at "sp-om"); (case hr2 => walk_at "sp-om"); (case hc => walk_at "sp-om"); (case hc2 => walk_at "sp-om"); walk_at "sp-z"; intro oD' a' oW' top' left' bottom' right' t1' t2' u1' u2' u3' u4' u5' u6' hD' ha' hb' hW' i1' i2' i3' i4' i5' i6' h' tk' hO' F' N'; walk_at "sp-dk"; walk_at "sp-ow"; walk_at "sp-n")))
  (k_with "call ref" => (k_here; k_dflt ( (with_reducible show wpAny _ _ (call (Value.ref 427) _ _) _ _ _); refine' spec_callC (as := [_, _, _, _, _]) (lwait_spec  ?hn ?hDk ?hI ?hL ?ha0 ?ha1 ?hW) ?B ?F ?X ?T ?N ?hA ?hh ?hf ?hk (sub_cons ?m1 (sub_cons ?m2 (sub_cons ?m3 (sub_cons ?m4 (sub_cons ?m5 sub_nil))))) ?has ?hrest ?hd ?hu ?_; walk_at "sp-a"; walk_at "sp-m1"; (case hDk => exact deck_mk (by k_asm) (by walk_at "sp-om") (by walk_at "sp-om") rfl); walk_at "sp-m2"; (case hI => k_asm); (case hL => assumption); (case ha0 => walk_at "sp-om"); (case ha1 => walk_at "sp-om"); walk_at "sp-m3"; (case hW => exact own_mk (by k_asm) rfl rfl rfl rfl rfl rfl rfl rfl); walk_at "sp-m4"; walk_at "sp-m5"; (case hn => walk_at "sp-dist"); walk_at "sp-z"; intro oD' a' oW' x' t1' t2' hD' ha' hb' hW' hx' h' tk' hO' F' N'; walk_at "sp-dk"; walk_at "sp-ow"; walk_at "sp-n")))
  (k_with "call ref" => (k_here; k_dflt ( (with_reducible show wpAny _ _ (call (Value.ref 434) _ _) _ _ _); refine' spec_callC (as := [_, _, _, _, _, _, _, _, _, _, _]) (lmoved_spec  ?hn ?hDk ?hI ?hL ?ha0 ?ha1 ?hW ?hS ?hlo ?hI2 ?hL2 ?hm ?hb) ?B ?F ?X ?T ?N ?hA ?hh ?hf ?hk (sub_cons ?m1 (sub_cons ?m2 (sub_cons ?m3 (sub_cons ?m4 (sub_cons ?m5 (sub_cons ?m6 (sub_cons ?m7 (sub_cons ?m8 (sub_cons ?m9 (sub_cons ?m10 (sub_cons ?m11 sub_nil))))))))))) ?has ?hrest ?hd ?hu ?_; walk_at "sp-a"; walk_at "sp-m1"; (case hDk => exact deck_mk (by k_asm) (by walk_at "sp-om") (by walk_at "sp-om") rfl); walk_at "sp-m2"; (case hI => k_asm); (case hL => assumption); (case ha0 => walk_at "sp-om"); (case ha1 => walk_at "sp-om"); walk_at "sp-m3"; (case hW => exact own_mk (by k_asm) rfl rfl rfl rfl rfl rfl rfl rfl); walk_at "sp-m4"; walk_at "sp-m5"; walk_at "sp-m6"; walk_at "sp-m7"; walk_at "sp-m8"; walk_at "sp-m9"; walk_at "sp-m10"; walk_at "sp-m11"; (case hS => k_asm); (case hlo => k_asm); (case hI2 => k_asm); (case hL2 => assumption); (case hm => assumption); (case hb => assumption); (case hn => walk_at "sp-dist"); walk_at "sp-z"; intro oD' a' oW' r' x' hD' ha' hb' hW' hbd' t1' t2' h' tk' hO' F' N'; walk_at "sp-dk"; walk_at "sp-ow"; walk_at "sp-n")))
  (k_with "call ref" => (k_here; (with_reducible show wpAny _ _ (call (Value.ref 330) _ _) _ _ _); refine Hold.out ?_))
  (k_with "call put" => (k_dflt ( (with_reducible show wpAny _ _ (call (Value.ref 330) _ _) _ _ _); refine' spec_callC (as := [_, _, _]) (put_spec  ?hn ?hc ?hdat ?hI ?hlen ?hnd ?hin) ?B ?F ?X ?T ?N ?hA ?hh ?hf ?hk (sub_cons ?m1 (sub_cons ?m2 (sub_cons ?m3 sub_nil))) ?has ?hrest ?hd ?hu ?_; walk_at "sp-a"; walk_at "sp-m1"; walk_at "sp-m2"; walk_at "sp-m3"; (case hc => rfl); (case hdat => rfl); (case hI => k_asm); (case hlen => walk_at "sp-om"); (case hnd => assumption); (case hin => assumption); (case hn => walk_at "sp-dist"); walk_at "sp-z"; intro st' oS' hS' hlo' q1' q2' q3' h' tk' hO' F' N'; have hN' := hO' _ (List.Mem.tail _ (List.Mem.tail _ (List.Mem.head _))); dsimp only [List.map] at hN'; walk_at "sp-n")))
  (k_with "e-did" => (refine' SpecEnd.introC ((_, _) :: (_, _) :: (_, _) :: (_, lsc _ _) :: (_, _) :: (_, curD _ (.int _ _) (.int _ _) (.bool _) (.bool _)) :: (_, _) :: (_, marD _ (.int _ _) (.int _ _) (.int _ _) (.int _ _) (.int _ _) (.int _ _)) :: (_, _) :: (_, tabD _ (.int _ _) (.ref _)) :: [(_, _)]) ?F ?N (sub_cons ?m1 (sub_cons ?m2 (sub_cons ?m3 (sub_cons ?m4 (sub_cons ?m5 (sub_cons ?m6 (sub_cons ?m7 (sub_cons ?m8 (sub_cons ?m9 (sub_cons ?m10 (sub_cons ?m11 sub_nil))))))))))) rfl rfl (fun _ k => k _ _ _ _ _ _ _ _ _ _ _ _ _ _ _ _ _ _ _ _ _ _ _ _ _ _ (deck_mk ?hDk ?i1 ?i2 rfl) ?i3 ?i4 (own_mk ?hW rfl rfl rfl rfl ?e1 ?e2 ?e3 ?e4) ?hm ?hb ?hS ?hlo ?hI ?hL ?hp ?hd); (case F => assumption); (case N => assumption); walk_at "sp-m1"; walk_at "sp-hDk"; walk_at "sp-m2"; walk_at "sp-m3"; walk_at "sp-hW"; walk_at "sp-m4"; walk_at "sp-m5"; walk_at "sp-m6"; walk_at "sp-m7"; walk_at "sp-m8"; walk_at "sp-m9"; walk_at "sp-m10"; walk_at "sp-m11"; walk_at "sp-i1"; walk_at "sp-i2"; walk_at "sp-i3"; walk_at "sp-i4"; (case e1 => rfl); (case e2 => rfl); (case e3 => rfl); (case e4 => rfl); (case hS => assumption); (case hlo => assumption); (case hI => assumption); (case hL => first | assumption | (simp only [List.length_cons, List.length_nil]; omega)); (case hp => assumption); (case hm => first | assumption | exact mg_mk (by walk_at "sp-om") (by walk_at "sp-om") (by walk_at "sp-om") (by walk_at "sp-om") (by walk_at "sp-om") (by walk_at "sp-om") (by walk_at "sp-om") (by walk_at "sp-om") (by walk_at "sp-om") (by walk_at "sp-om")); (case hb => first | assumption | exact bd_go (by assumption) (by assumption) (by assumption) | exact bd_wait (by assumption) (by assumption) (by assumption) | exact bd_home (by assumption) | exact bd_home (mg_mk (by walk_at "sp-om") (by walk_at "sp-om") (by walk_at "sp-om") (by walk_at "sp-om") (by walk_at "sp-om") (by walk_at "sp-om") (by walk_at "sp-om") (by walk_at "sp-om") (by walk_at "sp-om") (by walk_at "sp-om"))); (case hd => walk_at "sp-dist")))
  have n1 := And.left hn
  have n2 := And.left (And.right hn)
  have n3 := And.left (And.right (And.right hn))
  have n4 := And.left (And.right (And.right (And.right hn)))
  have n5 := And.left (And.right (And.right (And.right (And.right hn))))
  have n6 := And.left (And.right (And.right (And.right (And.right (And.right hn)))))
  have n7 := And.left (And.right (And.right (And.right (And.right (And.right (And.right hn))))))
  have n8 := And.left (And.right (And.right (And.right (And.right (And.right (And.right (And.right hn)))))))
  have n9 := And.left (And.right (And.right (And.right (And.right (And.right (And.right (And.right (And.right hn))))))))
  have n10 := And.left (And.right (And.right (And.right (And.right (And.right (And.right (And.right (And.right (And.right hn)))))))))
  clear hn
  refine hDk _ ?_; clear hDk; intro sti dta1 dts1 hDk hs0 hs1
  refine hW _ ?_; clear hW; intro o1 o2 o3 o4 o5 o6 o7 o8 hW
  refine mg_el hm ?_; intro g1 g2 g3 g4 g5 g6 g7 g8 g9 g10
  refine bd_el hb ?_; intro b1 b2 b3 b4 b5
  k_fill
  refine' spec_enterC (binds := [(Str.ofString "deck", .ref dk), (Str.ofString "cursor", .ref cu), (Str.ofString "margins", .ref ma), (Str.ofString "tabs", .ref ta), (Str.ofString "own", .ref ow)]) ?ko ?kcd ?kb ?kl ?kn ?k1 ?_ ?c1 ?c2 ?c3
  (case ko => k_dflt k_is)
  (case kcd => k_dflt k_is)
  (case c1 => rfl)
  (case c2 => rfl)
  (case c3 => rfl)
  (case kb => (intro s hX; exact BindsTo.of_eq rfl))
  (case kl => exact rfl)
  (case kn => decide +kernel)
  (case k1 => decide)
  intro p loose mean mg mb dp un gd outer A₀ base g s L' h₁ tk cells hd hu B F N Y l1 X T
  (try (replace l1 := allLt_of l1; simp only [AllLt, and_true] at l1))
  k_cells Y
  (try simp only [List.cons_append, List.nil_append] at N)
  (try dsimp only)
  (try k_fold)
  k_steps
  all_goals (try dsimp only); (try k_unfold); (try dsimp only)
  all_goals (try walk_at "e-did")
  rename IsRange _ _ _ _ _ _ _ _ => hR
  obtain ⟨n, e, hn4⟩ := rng_nat hR (by assumption) (by assumption)
  subst e
  refine LCg.CompSrc.range (n := n) rfl (by k_asm) (by k_asm) hR (small_one (by omega) (by omega) (by omega) (by omega)) (rangeSize_nat _ _) (by rw [sizeLine_eq]; omega) ?_
  intro g'
  refine comp_loopC (DrawnJ w dk lc cols (a + 1 + 1) _) (fun _ k => k _ _ [] [] (deck_mk (by assumption) (by assumption) (by assumption) rfl) (by omega) (by omega) .nil rfl (fun _ h => nomatch h)) ?_ ?_
  · intro i v I oI C oC D m₂ h tk E' hi hv
    obtain ⟨t9, rfl⟩ := hv
    intro hC hx F ne oD₁ a₁ ns₁ vs₁ hDk₁ ha₁ hb₁ hI₁ hl₁ hx₁ N off nI nC nD
    dsimp only [List.map] at nI nC nD
    refine hDk₁ _ ?_; clear hDk₁; intro st₁ ta₁ ts₁ hDk₁ hs₁ hs₂
    --TURN1
    k_steps
    all_goals (refine' drawn_next ?d1 ?d2 ?d3 ?d4 ?d5 ?d6 ?d7 ?d8 ?d9 ?da _ ?kh; (case kh => assumption); (case d1 => assumption); (case d2 => assumption); (case d3 => assumption); (case d4 => assumption); (case d5 => assumption); (case d6 => assumption); (case d7 => omega); (case d8 => omega); (case d9 => assumption); (case da => assumption))
  · intro oD₁ a₁ ns₁ vs₁ hDk₁ ha₁ hb₁ hI₁ hl₁ hx₁
    refine hDk₁ _ ?_; clear hDk₁; intro st₁ ta₁ ts₁ hDk₁ hs₁ hs₂
    have hv₁ := hI₁.length
    --FIN1
    k_steps
    refine Hold.out ?_
    refine en_loopC (StopsJ ns₁ _) (fun _ k => k [] [] .nil List.nodup_nil (fun _ h => nomatch h) (Nat.le_refl _)) ?_ ?_
    · intro i v oJ hvi
      obtain ⟨k₂, t₂, ek₂, hk₂⟩ := IntsAre.at hI₁ i v hvi
      subst ek₂
      intro ks₂ ys₂ hI₂ hnd₂ hsub₂ hl₂ hJ
      dsimp only [List.map] at hJ
      have hi₀ : (0 : Int) ≤ (i : Int) := Int.natCast_nonneg i
      --TURN2
      k_steps
      all_goals (refine' en_keep ?ks ?kj ?kq ?kw; (case kw => first | exact stops_yes (by assumption) (by assumption) (by assumption) (by assumption) (by assumption) (by assumption) | exact stops_no (by assumption) (by assumption) (by assumption) (by assumption)); (case kj => assumption); (case kq => k_mem); (case ks => walk_at "sp-sub"))
    · intro ks₂ ys₂ hI₂ hnd₂ hsub₂ hl₂
      --FIN2
      k_steps
      refine Hold.into ?_
      rename IntsAre _ _ => hI₃
      rename List.Pairwise _ _ => hO₃
      rename List.Perm _ _ => hP₃
      have hL₃ := hP₃.length_eq
      have hL₄ : List.length _ ≤ 3 := Nat.le_trans (Nat.le_of_eq hL₃) (by omega)
      have hN₃ := hP₃.nodup_iff.mpr hnd₂
      have hlt₃ := lt_of_le_nodup hO₃ hN₃
      have hin₃ := fun k hk => hx₁ k (List.mem_of_mem_take (hsub₂ k (hP₃.mem_iff.mp hk)))
      walk_at "call put"
      k_steps
      all_goals (try dsimp only); (try k_unfold); (try dsimp only)
      all_goals walk_at "e-did"
end
section
theorem np_news {h₀ h : Heap} {L D : Addr} {m : Str → Option Value} {news : Led} {ys : List Value} (F : Fr h₀ L h m) (N : News h₀ L h news) (hz : h₀.get? D = none) (np : NewPlain h news D ys.toArray) : ∃ c, News h₀ L h ((D, lsc ys c) :: news) ∧ NotIn D (news.map (·.1)) := by
  have hL := np.ne_locals F
  obtain ⟨⟨c, e⟩, off⟩ := np
  refine ⟨c, fun p hp => ?_, notIn_of fun q hq => Ne.symm (off q hq)⟩
  rcases List.mem_cons.mp hp with rfl | hp
  · exact ⟨e, hL, hz⟩
  · exact N p hp
def LawJ (m₀ : Str → Option Value) (w : World) (dk lc ow cu dcu ma dma ta dta : Addr) (ys : List Value) (cc : CK) (mc : MK) (tc : TK) (rows cols : Int) (i : Nat) (G : MLed) : Prop :=
  ∀ (u : Option Value), StateH w dk lc ow cu dcu ma dma ta dta ys cc mc tc rows cols 0 (3 + 20 * (i : Int)) fun news => G (fun z => if z = (Str.ofString "turn") then u else m₀ z) news
theorem lawJ_mk {m₀ m : Str → Option Value} {w : World} {dk lc ow cu dcu ma dma ta dta : Addr} {ys : List Value} {cc : CK} {mc : MK} {tc : TK} {rows cols : Int} {i : Nat} {u : Option Value} {oD : Obj} {a : Int} {oW : Obj} {top left bottom right row col : Int} {wait org : Bool} {ol : Addr} {vs : List Value} {vc : Nat} {ks : List Int} {tr tx m1 m2 m3 m4 m5 m6 : Tok} {st : Addr} {tq : Tok} {oS : Obj}
    (e : m = (fun z => if z = (Str.ofString "turn") then u else m₀ z)) (hDk : DeckIs w oD lc a) (h1 : 0 ≤ a) (h2 : a ≤ 3 + 20 * (i : Int)) (hW : OwnIs w oW rows cols top left bottom right row col wait org ol) (hm : Mg rows cols top left bottom right) (hb : Bd rows cols top left bottom right row col org) (hS : Keys w oS ks) (hlo : (st == sysModules) = false) (hI : IntsAre vs ks) (hL : ks.length ≤ 3) (hp : ks.Pairwise (· < ·)) (hd : Dist [dk, lc, ow, ol, cu, dcu, ma, dma, ta, dta, st]) :
    ∀ G : MLed, LawJ m₀ w dk lc ow cu dcu ma dma ta dta ys cc mc tc rows cols i G → G m [(dk, oD), (lc, LCg.lst ys), (ow, oW), (ol, lsc vs vc), (cu, instObj 74 dcu), (dcu, curD cc (.int row tr) (.int col tx) (.bool wait) (.bool org)), (ma, instObj 207 dma), (dma, marD mc (.int rows m1) (.int cols m2) (.int top m3) (.int bottom m4) (.int left m5) (.int right m6)), (ta, instObj 362 dta), (dta, tabD tc (.int cols tq) (.ref st)), (st, oS)] := by
  subst e; exact fun _ k => k _ _ _ _ _ _ _ _ _ _ _ _ _ _ _ _ _ _ _ _ _ _ _ _ _ _ _ hDk h1 h2 hW hm hb hS hlo hI hL hp hd
section
variable {prog : Program} {w : World} {A : Around} {E : Value → Shared → Prop} {s : Shared} {h₀ : Heap} {L : Addr} {m : Str → Option Value} {env : Env}
def LcR (h₀ : Heap) (L : Addr) (m : Str → Option Value) (Q : Value → Shared → Prop) (xv : Value) (s₁ : Shared) : Prop :=
  ∃ news : Led, ∃ r a₀ b₀ c₀ t₀ u₀ v₀, ∃ n : Nat, xv = .ref r ∧ IsRange s₁.heap r a₀ b₀ c₀ t₀ u₀ v₀ ∧ Builtin.Range.small a₀ b₀ c₀ = true ∧ Builtin.Range.rangeSize a₀ b₀ c₀ = (n : Int) ∧ n ≤ sizeLine ∧ Fr h₀ L s₁.heap m ∧ News h₀ L s₁.heap news ∧
      ∀ D (ys : List Value) h' tk, Fr h₀ L h' m → News h₀ L h' news → h₀.get? D = none → NewPlain h' news D ys.toArray → IntsAre ys (rangeInts a₀ c₀ n) → Q (.ref D) { s₁ with heap := h', toks := tk }
theorem LcR.mk {Q : Value → Shared → Prop} {s₁ : Shared} {news : Led} {r : Addr} {a₀ b₀ c₀ : Int} {t₀ u₀ v₀ : Tok} {n : Nat} (R : IsRange s₁.heap r a₀ b₀ c₀ t₀ u₀ v₀) (F : Fr h₀ L s₁.heap m) (N : News h₀ L s₁.heap news) (h1 : Builtin.Range.small a₀ b₀ c₀ = true) (h2 : Builtin.Range.rangeSize a₀ b₀ c₀ = (n : Int)) (h3 : n ≤ sizeLine)
    (k : ∀ D (ys : List Value) h' tk, Fr h₀ L h' m → News h₀ L h' news → h₀.get? D = none → NewPlain h' news D ys.toArray → IntsAre ys (rangeInts a₀ c₀ n) → Q (.ref D) { s₁ with heap := h', toks := tk }) : LcR h₀ L m Q (.ref r) s₁ :=
  ⟨_, _, _, _, _, _, _, _, _, rfl, R, h1, h2, h3, F, N, k⟩
theorem lc_range {iter : Expr} {x : Str} {px pe : Pos} {scope : Scope} {cl : List (Str × Addr)} {pos : Pos} {Q : Value → Shared → Prop} (_F : Fr h₀ L s.heap m)
    (hh : A.handled = none) (hclos : closureFor scope env = pure cl) (hcell : ∀ y ∈ scope.names, y.2 ≠ .cell) (hkind : scope.kind = .function)
    (hnames : ∀ y ∈ scope.names, y.2 = .local → scope.names.lookup y.1 = some .local) (hx : scope.names.lookup x = some .local) (hd : (x == ("__debug__" : Str)) = false)
    (hs : ∀ x, foldedSetIterable iter env x = pure x) (h : wpAny (model prog w) A (eval iter env) (LcR h₀ L m Q) E s) :
    wpAny (model prog w) A (eval (.ListComp (.Name x pe) [⟨.Name x px, iter, [], 0⟩] scope pos) env) Q E s := by
  refine ListComp_DCr (h₀ := h₀) (L := L) (m := m) (pz := fun _ => true) (d := PyData.int) hh hclos hcell hkind hnames hx (wpAny_mono h (fun xv s₁ h₁ => ?_) fun _ _ e => e) hs
  obtain ⟨news, r, a₀, b₀, c₀, t₀, u₀, v₀, n, rfl, hr, hsmall, hn, hsz, F, N, hQ⟩ := h₁
  refine ⟨news, r, a₀, b₀, c₀, t₀, u₀, v₀, n, rfl, hr, hsmall, hn, hsz, F, N, ?_, ?_, ?_⟩
  · intro C a v s₂ m₂ E' _ _ _ _ _ _
    exact wpAny_pure ⟨rfl, _, _, rfl, fun _ _ e => e⟩
  · intro C a v s₂ m₂ E' _ _ hi _ hns hm _
    obtain ⟨t, rfl⟩ := ItemKind.int_is hi
    have hk : (compEnvC scope cl C env).scope.kind = .function := hkind
    have hl : (compEnvC scope cl C env).kindOf x = some .local := lookup_relabel_local (env := env) hx
    refine wpAny_Name (wpAny_loadName_local hk hl hns hm ⟨?_, _, _, rfl, fun _ _ e => e⟩) hd
    first | exact trivial | exact ⟨_, rfl⟩ | exact .int _ _ | exact Carried.int _ _
  · intro D ys h' tk F' N' z _ np ca
    refine hQ D ys h' tk F' N' z np ?_
    have := CarriedAll.intsOf (f := fun a : Int => a) ca
    rw [List.filter_eq_self.2 (fun _ _ => rfl), List.map_id'] at this
    exact this
end
theorem np_newsC {h₀ h : Heap} {L D : Addr} {m : Str → Option Value} {news : Led} {ys : List Value} (F : Fr h₀ L h m) (N : News h₀ L h news) (hz : h₀.get? D = none) (np : NewPlain h news D ys.toArray) {G : Prop} (k : ∀ c, News h₀ L h ((D, lsc ys c) :: news) → NotIn D (news.map (·.1)) → G) : G := by
  obtain ⟨c, a, b⟩ := np_news F N hz np
  exact k c a b
local macro_rules | `(tactic| walk_at "FinE") => `(tactic| ((unfold LCg.FinE); intro D' h' tk' F' N' o1'; (replace o1' := off1_not o1'); (dsimp only [List.map] at o1'); (try simp only [List.nil_append, List.cons_append] at N'); (try dsimp only)))
set_option hygiene false in
local macro_rules | `(tactic| k_lt $h) => `(tactic| ((have lN' := notIn_lt $h); (try dsimp only [List.map] at lN'); (replace $h := allLt_of $h); simp only [AllLt, and_true] at $h:ident))
local macro_rules | `(tactic| k_qdec) => `(tactic| first | (rw [PySem.W.Fast.te17448422675489707002]; kernel_rfl) | (rw [PySem.W.Fast.te2458874890965802552]; kernel_rfl))
local macro_rules | `(tactic| walk_at "pyIter ref") => `(tactic| (k_here; refine Hold.out ?_))
set_option hygiene false in
local macro_rules | `(tactic| walk_at "eval ListComp") => `(tactic| (k_here; (with_reducible show wpAny _ _ (PySem.eval (PySem.Expr.ListComp (PySem.Expr.Name _ _) [⟨PySem.Expr.Name _ _, PySem.Expr.Call (PySem.Expr.Name (Str.ofString "range") _) _ _ _, [], _⟩] _ _) _) _ _ _); k_dflt (refine' lc_range ?lra ?lrb ?lrc ?lrd ?lre ?lrf ?lrg ?lrh ?lri ?_; (case lra => k_asm); (case lrb => rfl); (case lrc => with_unfolding_all rfl); (case lrd => decide); (case lre => rfl); (case lrf => decide); (case lrg => rfl); (case lrh => decide); (case lri => intro _; with_unfolding_all rfl))))
set_option hygiene false in
local macro_rules | `(tactic| walk_at "LcR") => `(tactic| (k_here; (rename IsRange _ _ _ _ _ _ _ _ => R'); (rename Fr _ _ _ _ => F'); (rename News _ _ _ _ => N'); (refine' LcR.mk R' F' N' (eights_small (by omega) (by omega)) (eights_size (by omega)) (by rw [PySem.sizeLine_eq]; omega) ?_); intro D' ys' h' tk' F' N'' z' np' iX'; refine np_newsC F' N'' z' np' ?_; clear N'' np' z'; intro c' N' o1'; (try dsimp only [List.map] at o1')))
set_option maxRecDepth 100000 in
set_option maxHeartbeats 8000000 in
theorem law_holds : PySem.Challenge.rw_og0257_01.Holds := by
  k_with_none
  (k_with "call ref" => (k_here; k_dflt ( (with_reducible show wpAny _ _ (call (Value.ref 387) _ _) _ _ _); refine' spec_callC (as := [_, _]) (draw_spec  ?hne ?hDk ?hI ?hl2 ?ha0 ?ha1 ?hs0 ?hs1 ?hb0 ?hb1) ?B ?F ?X ?T ?N ?hA ?hh ?hf ?hk (sub_cons ?m1 (sub_cons ?m2 sub_nil)) ?has ?hrest ?hd ?hu ?_; walk_at "sp-a"; walk_at "sp-m1"; (case hDk => k_asm); walk_at "sp-m2"; (case hne => walk_at "sp-ne"); (case hI => l_ints); (case hl2 => walk_at "sp-len"); (case ha0 => walk_at "sp-om"); (case ha1 => walk_at "sp-om"); (case hs0 => walk_at "sp-om"); (case hs1 => walk_at "sp-om"); (case hb0 => walk_at "sp-om"); (case hb1 => walk_at "sp-om"); walk_at "sp-z"; intro r' t' oD' st' ta' ts' hr0' hr1' hD' hs0' hs1' h' tk' hO' F' N'; walk_at "sp-n")))
  (k_with "call ref" => (k_here; k_dflt ((with_reducible show wpAny _ _ (call (Value.ref 74) _ _) _ _ _); refine' cls_callC (fI := 43) (fun x dx hxd => cursor_init hxd) ?Hm ?Hi ?Hfn ?B ?F ?X ?T ?N ?hA ?hh ?hf ?hk ?hd ?hu ?_; (case Hm => k_is); (case Hi => k_is); (case Hfn => k_is); walk_at "sp-a"; (case hd => walk_at "sp-room"); (case hu => walk_at "sp-units"); k_whole; intro xC' dC' hC' cc' t1' t2' h' tk' hO' F' N'; refine ⟨rfl, ?_⟩; have hN0 := hO' _ (List.Mem.head _); (try dsimp only [List.map] at hN0); have hN1 := hO' _ (List.Mem.tail _ (List.Mem.head _)); (try dsimp only [List.map] at hN1); walk_at "sp-n")))
  (k_with "call ref" => (k_here; k_dflt ((with_reducible show wpAny _ _ (call (Value.ref 207) _ _) _ _ _); refine' cls_callC (fI := 92) (fun x dx hxd => margins_init hxd) ?Hm ?Hi ?Hfn ?B ?F ?X ?T ?N ?hA ?hh ?hf ?hk ?hd ?hu ?_; (case Hm => k_is); (case Hi => k_is); (case Hfn => k_is); walk_at "sp-a"; (case hd => walk_at "sp-room"); (case hu => walk_at "sp-units"); k_whole; intro xC' dC' hC' mc' t1' t2' t3' t4' t5' t6' h' tk' hO' F' N'; refine ⟨rfl, ?_⟩; have hN0 := hO' _ (List.Mem.head _); (try dsimp only [List.map] at hN0); have hN1 := hO' _ (List.Mem.tail _ (List.Mem.head _)); (try dsimp only [List.map] at hN1); walk_at "sp-n")))
  (k_with "call ref" => (k_here; k_dflt ((with_reducible show wpAny _ _ (call (Value.ref 362) _ _) _ _ _); refine' cls_callC (fI := 281) (fun x dx hxd => tabs_init (by omega) (by omega) hxd) ?Hm ?Hi ?Hfn ?B ?F ?X ?T ?N ?hA ?hh ?hf ?hk ?hd ?hu ?_; (case Hm => k_is); (case Hi => k_is); (case Hfn => k_is); walk_at "sp-a"; (case hd => walk_at "sp-room"); (case hu => walk_at "sp-units"); k_whole; intro xC' dC' hC' tc' tq' st' oS' hS' hlo' hs1' hs2' h' tk' hO' F' N'; refine ⟨rfl, ?_⟩; have hN0 := hO' _ (List.Mem.head _); (try dsimp only [List.map] at hN0); have hN1 := hO' _ (List.Mem.tail _ (List.Mem.head _)); (try dsimp only [List.map] at hN1); have hN2 := hO' _ (List.Mem.tail _ (List.Mem.tail _ (List.Mem.head _))); (try dsimp only [List.map] at hN2); walk_at "sp-n")))
  (k_with "call ref" => (k_here; k_dflt ( (with_reducible show wpAny _ _ (call (Value.ref 439) _ _) _ _ _); refine' spec_callC (as := [_, _, _, _, _, _, _, _, _, _, _]) (did_spec  ?hn ?hDk ?hI ?hL ?ha0 ?ha1 ?hW ?hS ?hlo ?hI2 ?hL2 ?hp ?hm ?hb) ?B ?F ?X ?T ?N ?hA ?hh ?hf ?hk (sub_cons ?m1 (sub_cons ?m2 (sub_cons ?m3 (sub_cons ?m4 (sub_cons ?m5 (sub_cons ?m6 (sub_cons ?m7 (sub_cons ?m8 (sub_cons ?m9 (sub_cons ?m10 (sub_cons ?m11 sub_nil))))))))))) ?has ?hrest ?hd ?hu ?_; walk_at "sp-a"; walk_at "sp-m1"; (case hDk => assumption); walk_at "sp-m2"; (case hI => l_ints); (case hL => walk_at "sp-len"); (case ha0 => walk_at "sp-om"); (case ha1 => walk_at "sp-om"); walk_at "sp-m3"; (case hW => assumption); walk_at "sp-m4"; walk_at "sp-m5"; walk_at "sp-m6"; walk_at "sp-m7"; walk_at "sp-m8"; walk_at "sp-m9"; walk_at "sp-m10"; walk_at "sp-m11"; (case hS => assumption); (case hlo => assumption); (case hI2 => assumption); (case hL2 => assumption); (case hp => assumption); (case hm => assumption); (case hb => assumption); (case hn => assumption); walk_at "sp-z"; intro oD' a' oW' p1' p2' p3' p4' p5' p6' wt' og' ol' vs' vc' ks' q1' q2' u1' u2' u3' u4' u5' u6' st' tq' oS' hDk' hlo1' hhi1' hW' hm' hb' hS' hlo' hI2' hL2' hp' hn' h' tk' hO' F' N'; have nI' := notIn_of (fun q hq => Ne.symm (And.left (hO' q hq))); (try dsimp only [List.map] at nI');  have k1' := And.left hn'; have k2' := And.left (And.right hn'); have k3' := And.right (And.right hn'); walk_at "sp-n")))
  (k_with "call ref" => (k_here; k_dflt ( (with_reducible show wpAny _ _ (call (Value.ref 446) _ _) _ _ _); refine' spec_callC (as := [_, _, _, _, _, _, _, _, _]) (same_spec  ?hn ?hW ?hS ?hlo ?hI2 ?hL2 ?hs) ?B ?F ?X ?T ?N ?hA ?hh ?hf ?hk (sub_cons ?m1 (sub_cons ?m2 (sub_cons ?m3 (sub_cons ?m4 (sub_cons ?m5 (sub_cons ?m6 (sub_cons ?m7 (sub_cons ?m8 (sub_cons ?m9 sub_nil))))))))) ?has ?hrest ?hd ?hu ?_; walk_at "sp-a"; walk_at "sp-m1"; (case hW => assumption); walk_at "sp-m2"; walk_at "sp-m3"; walk_at "sp-m4"; walk_at "sp-m5"; walk_at "sp-m6"; walk_at "sp-m7"; walk_at "sp-m8"; walk_at "sp-m9"; (case hS => assumption); (case hlo => assumption); (case hI2 => assumption); (case hL2 => assumption); (case hs => assumption); (case hn => assumption); walk_at "sp-z"; intro  h' tk' hO' F' N'; walk_at "sp-n")))
  (k_with "e-lawturn" => ( refine' TurnEnd.intro [(_, _), (_, _), (_, _), (_, _), (_, _), (_, _), (_, _), (_, _), (_, _), (_, _), (_, _)] ?F ?N ?hi ?hs ?hn (lawJ_mk (bind_turn' _ _ _ _) ?hDk ?i3 ?i4 ?hW ?hm ?hb ?hS ?hlo ?hI ?hL ?hp ?hd); (case F => assumption); (case N => assumption); (case hi => k_mem); (case hs => walk_at "sp-sub"); (case hDk => assumption); (case i3 => omega); (case i4 => omega); (case hW => assumption); (case hS => assumption); (case hlo => assumption); (case hI => assumption); (case hL => assumption); (case hp => assumption); (case hm => assumption); (case hb => assumption); (case hd => assumption); (case hn => assumption)))
  (k_with "call ref" => (k_here; (with_reducible show wpAny _ _ (call (Value.ref 387) [_, Value.int 8 _]) _ _ _); refine Hold.out ?_))
  refine hd ?_
  k_go0
  (all_goals try k_fold)
  k_steps
  refine Hold.into ?_
  rename News _ _ _ _ => N9
  have N8 : News _ _ _ (List.tail _) := fun p hp => N9 p (List.mem_of_mem_tail hp)
  dsimp only [List.tail] at N8
  clear N9
  (with_reducible show wpAny _ _ (call (Value.ref 387) _ _) _ _ _)
  refine' spec_callC (as := [_, _]) (draw_spec  ?hne ?hDk ?hI ?hl2 ?ha0 ?ha1 ?hs0 ?hs1 ?hb0 ?hb1) ?B ?F ?X ?T ?N ?hA ?hh ?hf ?hk (sub_cons ?m1 (sub_cons ?m2 sub_nil)) ?has ?hrest ?hd ?hu ?_
  walk_at "sp-a"
  walk_at "sp-m1"
  (case hDk => k_asm)
  walk_at "sp-m2"
  (case hne => walk_at "sp-ne")
  (case hI => l_ints)
  (case hl2 => walk_at "sp-len")
  (case ha0 => walk_at "sp-om")
  (case ha1 => walk_at "sp-om")
  (case hs0 => walk_at "sp-om")
  (case hs1 => walk_at "sp-om")
  (case hb0 => walk_at "sp-om")
  (case hb1 => walk_at "sp-om")
  walk_at "sp-z"
  intro r' t' oD' st' ta' ts' hr0' hr1' hD' hs0' hs1' h' tk' hO' F' N'
  walk_at "sp-n"
  k_steps
  refine Hold.into ?_
  rename IsRange _ _ _ _ _ _ _ _ => hR
  rename Fr _ _ _ _ => F9
  rename News _ _ _ _ => N9
  refine' range_loopC (x := (Str.ofString "turn")) (LawJ _ _ _ _ _ _ _ _ _ _ _ _ _ _ _ _ _) ?hh hR (small_one (by omega) (by omega) (by omega) (by omega)) (rangeSize_nat _ _) F9
    (cb_drop N9 (sub_cons ?x1 (sub_cons ?x2 (sub_cons ?x3 (sub_cons ?x4 (sub_cons ?x5 (sub_cons ?x6 (sub_cons ?x7 (sub_cons ?x8 (sub_cons ?x9 (sub_cons ?x10 (sub_cons ?x11 sub_nil))))))))))))
    (lawJ_mk (bind_here' _ _) (deck_mk ?hDk ?i1 ?i2 rfl) ?i3 ?i4 (own_mk ?hW rfl rfl rfl rfl rfl rfl rfl rfl) ?hm ?hb ?hS ?hlo ?hI ?hL ?hp ?hd) ?turn ?done
  case hh => rfl
  case x1 => k_mem
  case hDk => assumption
  case x2 => k_mem
  case hW => assumption
  case x3 => k_mem
  case x4 => k_mem
  case x5 => k_mem
  case x6 => k_mem
  case x7 => k_mem
  case x8 => k_mem
  case x9 => k_mem
  case x10 => k_mem
  case x11 => k_mem
  case i1 => omega
  case i2 => omega
  case i3 => omega
  case i4 => omega
  case hS => assumption
  case hI => assumption
  case hlo => assumption
  case hL => (rw [rangeInts_length]; omega)
  case hp => exact eights_lt _
  case hm => exact mg_mk (by omega) (by omega) (by omega) (by omega) (by omega) (by omega) (by omega) (by omega) (by omega) (by omega)
  case hb => exact bd_go (mg_mk (by omega) (by omega) (by omega) (by omega) (by omega) (by omega) (by omega) (by omega) (by omega) (by omega)) (fun o => by cases o) (fun _ => ⟨by omega, by omega, by omega, by omega⟩)
  case hd => walk_at "sp-dist"
  case done =>
    intro h tk u oD a oW p1 p2 p3 p4 p5 p6 wt og ol vs vc ks tr tx u1 u2 u3 u4 u5 u6 st tq oS _ _ _ _ _ _ _ _ _ _ _ _ F₁ N₁
    clear F9 N9 hR
    (try dsimp only)
    (try k_fold)
    k_steps
  case turn =>
    clear F9 N9 hR
    intro i t h tk I it hi u oD a oW p1 p2 p3 p4 p5 p6 wt og ol vs vc ks tr tx u1 u2 u3 u4 u5 u6 st tq oS hDk hlo1 hhi1 hW hm hb hS hlo hI2 hL2 hp hn hI' F₁ N₁
    dsimp only [List.map] at hI'
    (try dsimp only)
    (try k_fold)
    k_steps
    all_goals (try dsimp only); (try k_unfold); (try dsimp only)
    all_goals walk_at "e-lawturn"
end
end Mine
theorem PySem.Challenge.cw_og0257_01_holds : PySem.Challenge.rw_og0257_01.Holds := by
  exact Mine.law_holds
