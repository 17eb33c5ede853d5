import PyProof.Rows.All
import Wide.All
import OpenK.AllK
import Wide.FinOn
import PySem.Challenge.RW_hb0008_01
open PySem PySem.W PyProof.Rows PySem.Calls
set_option Elab.async false
set_option maxRecDepth 100000
set_option compiler.extract_closed false
set_option maxHeartbeats 8000000
namespace Mine
section
local macro_rules | `(tactic| o_head $h) => `(tactic| skip)
theorem hd : False → PySem.Challenge.rw_hb0008_01.Holds := fun h => by
  w_on
  refine holds_law h.elim fun said => ?_
  k_head
  exact h.elim
end
end Mine
namespace Mine
theorem walk_off : True := by
  w_top off
  trivial
section
theorem fa_cons {α : Type} {P : α → Prop} {a : α} {l : List α} (h1 : P a) (h2 : ∀ x ∈ l, P x) : ∀ x ∈ a :: l, P x := List.forall_mem_cons.mpr ⟨h1, h2⟩
/-- the surroundings in which a def of the text is shown once -/
abbrev SA (dp : Nat) (outer : List Env) : Around := { handled := none, depth := dp, frames := some outer, guards := some [], units := 10 * dp }
theorem below_weaken {Γ : Ctx} {A A' : Around} (hh : A'.handled = A.handled) (hd : A'.depth ≤ A.depth) (hf : A'.frames = A.frames) (hg : A'.guards = A.guards) (hu : A'.units ≤ A.units)
    (h : Γ.Below A') : Γ.Below A :=
  ⟨h.1.trans hh, Nat.le_trans h.2.1 hd, fun l hl => h.2.2.1 l (hf.trans hl), fun g hg' => h.2.2.2.1 g (hg.trans hg'), Nat.le_trans h.2.2.2.2 hu⟩
theorem code_weaken {M : Model} {A A' : Around} {c : Code} {R : Result → Shared → Prop} {s : Shared} (hh : A'.handled = A.handled) (hd : A'.depth ≤ A.depth) (hf : A'.frames = A.frames) (hg : A'.guards = A.guards) (hu : A'.units ≤ A.units)
    (h : codeAny M A c R s) : codeAny M A' c R s := fun Γ p hc hΓ => h Γ p hc (below_weaken hh hd hf hg hu hΓ)
/-- objects that lie in h and are not of the ground g -/
def Lie (g h : Heap) (l : List (Addr × Obj)) : Prop := ∀ q ∈ l, h.get? q.1 = some q.2 ∧ g.get? q.1 = none
/-- what a def of the text does, once for all -/
def Spec (w : World) (dp : Nat) (f : Addr) (args : List Value) (rel : List (Addr × Obj)) (Ret : Value → List (Addr × Obj) → Prop) : Prop :=
  ∀ (p : Program) (loose : List Str) (mean : ExcName → Option Value) (mg mb : Str → Option Value) (outer : List Env) (base g : Heap) (s : Shared) (R : Result → Shared → Prop),
    PyProof.Rows.Below (SA dp outer) base outer g → (hd.heap_1 w.params).In g → Top p loose mean mg mb g → g.objs.size ≤ s.heap.objs.size → g.StaysIn s.heap → Lie g s.heap rel →
    (∀ v h' tk' rel', g.StaysIn h' → Lie g h' rel' → Ret v rel' → R (.ok (.ret v)) { s with heap := h', toks := tk' }) →
    codeAny (model PySem.Challenge.rw_hb0008_01.row.prog w) (SA dp outer) (.call (.ref f) ⟨args, []⟩) R s
theorem enter_def {prog : Program} {w : World} {A : Around} {K : Frag} {p : Program} {loose : List Str} {mean : ExcName → Option Value} {mg mb : Str → Option Value} {outer : List Env} {base g : Heap} {s : Shared} {R : Result → Shared → Prop} {news : List (Addr × Obj)}
    {name qual : Str} {params : Arguments} {body : List Stmt} {scope : Scope} {dV kV doc pm cdv ct oc : Value} {an od : Option Addr} {osl : Array (Option Value)} {f : Addr} {args : Args} {binds : List (Str × Value)}
    (B : PyProof.Rows.Below A base outer g) (X : K.In g) (T : Top p loose mean mg mb g) (hsz : g.objs.size ≤ s.heap.objs.size) (st : g.StaysIn s.heap) (N : Lie g s.heap news)
    (ho : K.lookup f = some ⟨oc, od, .func (fnOf name qual params body scope dV kV doc pm an cdv ct), osl⟩) (hcd : codeIn K cdv qual = true) (hroom : A.depth < recursionLimit)
    (hbind : BindsTo s (fnOf name qual params body scope dV kV doc pm an cdv ct) args binds) (hloc : ∀ y ∈ binds, scope.names.lookup y.1 = some .local)
    (h : ∀ L' h₁, Fr g L' h₁ (fun y => binds.reverse.lookup y) → News g L' h₁ news → PyProof.Rows.Below A base outer g → K.In g → Top p loose mean mg mb g → (∀ q ∈ news, q.1 < L') →
      wpAny (model prog w) (A.deeper (envOf qual scope L' f cdv)) (execs body (envOf qual scope L' f cdv))
        (fun fl s' => R (.ok (.ret (match fl with | .ret v => v | _ => .none))) s')
        (fun e s' => wpAny (model prog w) (A.deeper (envOf qual scope L' f cdv)) (leaving (envOf qual scope L' f cdv) e) (fun _ s'' => R (.error e) s'') (fun e' s'' => R (.error e') s'') s')
        { s with heap := h₁, toks := s.toks + binds.length })
    (hco : scope.isCoroutine = false) (hgen : scope.isGenerator = false) (hk : scope.kind = .function)
    (hcell : ∀ x ∈ scope.names, x.2 ≠ .cell) : codeAny (model prog w) A (.call (.ref f) args) R s := by
  have hlim : s.heap.NoLimit := T.nolimit.keeps st
  have hcr := codeRec_of (X.keeps st) hcd
  refine codeAny_call_def (fd := fnOf name qual params body scope dV kV doc pm an cdv ct) (body := body) (binds := binds) hroom ((X.keeps st) _ _ ho) rfl hlim hcr rfl hbind hcell hloc (fun h₁ hns hk₁ => ?_) hco hgen hk
  exact h s.heap.objs.size h₁ ⟨hns, fun b o e => hk₁ b o (st b o e), hsz⟩ (fun q hq => ⟨hk₁ _ _ (N q hq).1, Nat.ne_of_lt (Heap.lt_size (N q hq).1), (N q hq).2⟩) B X T (fun q hq => Heap.lt_size (N q hq).1)
/-- a contract at a call's place -/
theorem use_code {w : World} {A A₀ : Around} {p : Program} {loose : List Str} {mean : ExcName → Option Value} {mg mb : Str → Option Value} {env : Env} {outer : List Env} {base h₀ : Heap} {L : Addr} {m : Str → Option Value} {s : Shared} {news rel rest : List (Addr × Obj)}
    {dp : Nat} {f : Addr} {args : List Value} {Ret : Value → List (Addr × Obj) → Prop} {R : Result → Shared → Prop}
    (B : PyProof.Rows.Below A₀ base outer h₀) (F : Fr h₀ L s.heap m) (X : (hd.heap_1 w.params).In h₀) (N : News h₀ L s.heap news) (T : Top p loose mean mg mb h₀)
    (S : Spec w dp f args rel Ret)
    (hA : A.frames = some (env :: outer)) (hf : env.frame = some L) (hke : env.scope.kind = .function) (hh : A.handled = none) (hg : A.guards = some []) (hd : A.depth ≤ dp) (hu : A.units ≤ 10 * dp)
    (hrel : ∀ q ∈ rel, q ∈ news) (hrest : ∀ q ∈ rest, q ∈ news) (hoff : ∀ q ∈ rest, ∀ r ∈ rel, q.1 ≠ r.1)
    (k : ∀ v h' tk' rel', Fr h₀ L h' m → News h₀ L h' (rel' ++ rest) → (∀ q ∈ rest, ∀ r ∈ rel', r.1 ≠ q.1) → Ret v rel' → R (.ok (.ret v)) { s with heap := h', toks := tk' }) :
    codeAny (model PySem.Challenge.rw_hb0008_01.row.prog w) A (.call (.ref f) ⟨args, []⟩) R s := by
  have Nr : News h₀ L s.heap rel := fun q hq => N q (hrel q hq)
  obtain ⟨FG, BG, st, -⟩ := groundX (R := R) B F Nr hA hf hke
  have st' : ∀ b o, h₀.get? b = some o → (hideAll s.heap (rel.map (·.1))).get? b = some o := st
  refine code_weaken (A := SA dp (env :: outer)) hh hd hA hg hu ?_
  refine S p loose mean mg mb (env :: outer) base (hideAll s.heap (rel.map (·.1))) s R ⟨rfl, BG.stays, BG.frames⟩ (X.keeps st') (T.keeps st') (Nat.le_of_eq (hideAll_size _ _)) (fun b o e => of_hideAll _ e)
    (fun q hq => ⟨(Nr q hq).1, hideAll_none _ (List.mem_map_of_mem hq)⟩) ?_
  intro v h' tk' rel' sh Lr hR
  obtain ⟨oL, es, ep, hL, hLd, hLk, hLf⟩ := FG.ns
  have inG : ∀ q ∈ rest, (hideAll s.heap (rel.map (·.1))).get? q.1 = some q.2 := fun q hq => hideAll_get _ (N q (hrest q hq)).1 fun hm => by
    obtain ⟨r, hr, e⟩ := List.mem_map.mp hm
    exact hoff q hq r hr e.symm
  refine k v h' tk' rel' ⟨⟨oL, es, ep, sh L oL hL, hLd, hLk, hLf⟩, fun b o e => sh b o (st b o e), F.above⟩ (fun q hq => ?_) (fun q hq r hr e => ?_) hR
  · rcases List.mem_append.mp hq with hq | hq
    · refine ⟨(Lr q hq).1, fun e => ?_, ?_⟩
      · have := (Lr q hq).2; rw [e, hL] at this; cases this
      · cases e : h₀.get? q.1 with
        | none => rfl
        | some o => have := (Lr q hq).2; rw [st _ _ e] at this; cases this
    · exact ⟨sh _ _ (inG q hq), (N q (hrest q hq)).2.1, (N q (hrest q hq)).2.2⟩
  · have := (Lr r hr).2
    rw [e, inG q hq] at this
    cases this
end
section
/-- a contract at a call, what turns told apart from what stands -/
theorem use_call {w : World} {A A₀ : Around} {E : Value → Shared → Prop} {Q : Value → Shared → Prop} {p : Program} {loose : List Str} {mean : ExcName → Option Value} {mg mb : Str → Option Value} {env : Env} {outer : List Env} {base h₀ : Heap} {L : Addr} {m : Str → Option Value} {s : Shared} {news rel : List (Addr × Obj)}
    {dp : Nat} {f : Addr} {args : List Value} {Ret : Value → List (Addr × Obj) → Prop}
    (B : PyProof.Rows.Below A₀ base outer h₀) (F : Fr h₀ L s.heap m) (X : (hd.heap_1 w.params).In h₀) (N : News h₀ L s.heap news) (T : Top p loose mean mg mb h₀)
    (S : Spec w dp f args rel Ret)
    (hA : A.frames = some (env :: outer)) (hf : env.frame = some L) (hke : env.scope.kind = .function) (hh : A.handled = none) (hg : A.guards = some []) (hd : A.depth ≤ dp) (hu : A.units ≤ 10 * dp)
    (hrel : ∀ q ∈ rel, q ∈ news)
    (k : ∀ v h' tk' rel', Fr h₀ L h' m → (∀ nn : List (Addr × Obj), (∀ q ∈ nn, q ∈ rel' ∨ (q ∈ news ∧ ∀ r ∈ rel, q.1 ≠ r.1)) → News h₀ L h' nn) → (∀ q ∈ news, (∀ r ∈ rel, q.1 ≠ r.1) → ∀ r ∈ rel', r.1 ≠ q.1) → Ret v rel' → Q v { s with heap := h', toks := tk' }) :
    wpAny (model PySem.Challenge.rw_hb0008_01.row.prog w) A (call (.ref f) args) Q E s := by
  refine wpAny_call (use_code (rest := news.filter fun q => rel.all fun r => decide (q.1 ≠ r.1)) B F X N T S hA hf hke hh hg hd hu hrel (fun q hq => (List.mem_filter.mp hq).1)
    (fun q hq r hr => of_decide_eq_true (List.all_eq_true.mp (List.mem_filter.mp hq).2 r hr)) fun v h' tk' rel' F' N' hd' hR => ?_)
  have mem : ∀ q, q ∈ news → (∀ r ∈ rel, q.1 ≠ r.1) → q ∈ news.filter fun q => rel.all fun r => decide (q.1 ≠ r.1) := fun q hq hn =>
    List.mem_filter.mpr ⟨hq, List.all_eq_true.mpr fun r hr => decide_eq_true (hn r hr)⟩
  refine k v h' tk' rel' F' (fun nn hnn q hq => ?_) (fun q hq hn r hr => hd' q (mem q hq hn) r hr) hR
  rcases hnn q hq with h1 | ⟨h1, h2⟩
  · exact N' q (List.mem_append_left _ h1)
  · exact N' q (List.mem_append_right _ (mem q h1 h2))
/-- a contract of a def that changes nothing -/
theorem use_ro {w : World} {A A₀ : Around} {E : Value → Shared → Prop} {Q : Value → Shared → Prop} {p : Program} {loose : List Str} {mean : ExcName → Option Value} {mg mb : Str → Option Value} {env : Env} {outer : List Env} {base h₀ : Heap} {L : Addr} {m : Str → Option Value} {s : Shared} {news rel : List (Addr × Obj)}
    {dp : Nat} {f : Addr} {args : List Value} {Ret : Value → Prop}
    (B : PyProof.Rows.Below A₀ base outer h₀) (F : Fr h₀ L s.heap m) (X : (hd.heap_1 w.params).In h₀) (N : News h₀ L s.heap news) (T : Top p loose mean mg mb h₀)
    (S : Spec w dp f args rel (fun v rel' => rel' = rel ∧ Ret v))
    (hA : A.frames = some (env :: outer)) (hf : env.frame = some L) (hke : env.scope.kind = .function) (hh : A.handled = none) (hg : A.guards = some []) (hd : A.depth ≤ dp) (hu : A.units ≤ 10 * dp)
    (hrel : ∀ q ∈ rel, q ∈ news)
    (k : ∀ v h' tk', Fr h₀ L h' m → News h₀ L h' news → Ret v → Q v { s with heap := h', toks := tk' }) :
    wpAny (model PySem.Challenge.rw_hb0008_01.row.prog w) A (call (.ref f) args) Q E s := by
  refine use_call B F X N T S hA hf hke hh hg hd hu hrel fun v h' tk' rel' F' N' _ hR => ?_
  obtain ⟨rfl, hR⟩ := hR
  refine k v h' tk' F' (N' news fun q hq => ?_) hR
  by_cases hx : ∃ r ∈ rel', q.1 = r.1
  · obtain ⟨r, hr, e⟩ := hx
    left
    have h1 := (N q hq).1
    have h2 := (N r (hrel r hr)).1
    rw [e, h2] at h1
    have : q = r := Prod.ext e (Option.some.inj h1).symm
    rw [this]; exact hr
  · exact .inr ⟨hq, fun r hr e => hx ⟨r, hr, e⟩⟩
end
section
/-- a def whose locals are closed over is entered -/
theorem enter_defC {prog : Program} {w : World} {A : Around} {K : Frag} {p : Program} {loose : List Str} {mean : ExcName → Option Value} {mg mb : Str → Option Value} {outer : List Env} {base g : Heap} {s : Shared} {R : Result → Shared → Prop} {news : List (Addr × Obj)}
    {name qual : Str} {params : Arguments} {body : List Stmt} {scope : Scope} {dV kV doc pm cdv ct oc : Value} {an od : Option Addr} {osl : Array (Option Value)} {f : Addr} {args : Args} {binds : List (Str × Value)}
    (B : PyProof.Rows.Below A base outer g) (X : K.In g) (T : Top p loose mean mg mb g) (hsz : g.objs.size ≤ s.heap.objs.size) (st : g.StaysIn s.heap) (N : Lie g s.heap news)
    (ho : K.lookup f = some ⟨oc, od, .func (fnOf name qual params body scope dV kV doc pm an cdv ct), osl⟩) (hcd : codeIn K cdv qual = true) (hroom : A.depth < recursionLimit)
    (hbind : BindsTo s (fnOf name qual params body scope dV kV doc pm an cdv ct) args binds)
    (hkind : (binds.all fun y => scope.names.lookup y.1 == some .local || scope.names.lookup y.1 == some .cell) = true)
    (hnd : ((cellsFrom 0 scope.names []).map (·.1)).Nodup)
    (h : ∀ L' h₁ tk cells, Fr g L' h₁ (bindL (envOfC qual scope L' f cdv).kindOf binds fun _ => none) → News g L' h₁ (cells ++ news) →
      CellsAre (bindC (envOfC qual scope L' f cdv).kindOf binds fun _ => none) (cellsFrom (L' + 1) scope.names []) cells → PyProof.Rows.Below A base outer g → K.In g → Top p loose mean mg mb g → (∀ q ∈ news, q.1 < L') →
      wpAny (model prog w) (A.deeper (envOfC qual scope L' f cdv)) (execs body (envOfC qual scope L' f cdv))
        (fun fl s' => R (.ok (.ret (match fl with | .ret v => v | _ => .none))) s')
        (fun e s' => wpAny (model prog w) (A.deeper (envOfC qual scope L' f cdv)) (leaving (envOfC qual scope L' f cdv) e) (fun _ s'' => R (.error e) s'') (fun e' s'' => R (.error e') s'') s')
        { s with heap := h₁, toks := tk })
    (hco : scope.isCoroutine = false) (hgen : scope.isGenerator = false) (hk : scope.kind = .function) : codeAny (model prog w) A (.call (.ref f) args) R s := by
  have hlim : s.heap.NoLimit := T.nolimit.keeps st
  have hcr := codeRec_of (X.keeps st) hcd
  refine codeAny_call_function hroom ((X.keeps st) _ _ ho) rfl hco hgen rfl hcr (hbind _ _ _ _ ?_)
  refine wpAny_newFunctionEnv_cells hk (kindsX hkind _) fun env' he s' x => ?_
  subst he
  refine ⟨hlim.keeps x.toInCall.keep, codeAny_func ?_⟩
  obtain ⟨h₁, tk, rfl, _⟩ := x.done
  have up := x.toInCall.keep
  obtain ⟨cells, NC, Y⟩ := Cl.news (h₀ := s.heap) (Nat.le_refl _) fun n c hm => ⟨x.cell n c (lookup_of_mem_nodup (cellsFrom_names scope.names 0 (s.heap.objs.size + 1) [] [] rfl ▸ hnd) hm), x.above n c hm⟩
  refine h s.heap.objs.size h₁ tk cells ⟨x.toInCall.ns, fun b o e => up b o (st b o e), hsz⟩ (fun q hq => ?_) Y B X T fun q hq => Heap.lt_size (N q hq).1
  rcases List.mem_append.mp hq with hq | hq
  · refine ⟨(NC q hq).1, (NC q hq).2.1, ?_⟩
    cases e : g.get? q.1 with
    | none => rfl
    | some o => have := st _ _ e; rw [(NC q hq).2.2] at this; cases this
  · exact ⟨up _ _ (N q hq).1, Nat.ne_of_lt (Heap.lt_size (N q hq).1), (N q hq).2⟩
end
section
/-- entering with the parameters written out -/
theorem enter_defB (rb : List (Str × Value)) {prog : Program} {w : World} {A : Around} {K : Frag} {p : Program} {loose : List Str} {mean : ExcName → Option Value} {mg mb : Str → Option Value} {outer : List Env} {base g : Heap} {s : Shared} {R : Result → Shared → Prop} {news : List (Addr × Obj)}
    {name qual : Str} {params : Arguments} {body : List Stmt} {scope : Scope} {dV kV doc pm cdv ct oc : Value} {an od : Option Addr} {osl : Array (Option Value)} {f : Addr} {args : Args}
    (B : PyProof.Rows.Below A base outer g) (X : K.In g) (T : Top p loose mean mg mb g) (hsz : g.objs.size ≤ s.heap.objs.size) (st : g.StaysIn s.heap) (N : Lie g s.heap news)
    (ho : K.lookup f = some ⟨oc, od, .func (fnOf name qual params body scope dV kV doc pm an cdv ct), osl⟩) (hcd : codeIn K cdv qual = true) (hroom : A.depth < recursionLimit)
    (hbind : BindsTo s (fnOf name qual params body scope dV kV doc pm an cdv ct) args rb.reverse) (hloc : ∀ y ∈ rb.reverse, scope.names.lookup y.1 = some .local)
    (h : ∀ L' h₁ tk, Fr g L' h₁ (fun y => rb.lookup y) → News g L' h₁ news → PyProof.Rows.Below A base outer g → K.In g → Top p loose mean mg mb g → (∀ q ∈ news, q.1 < L') →
      wpAny (model prog w) (A.deeper (envOf qual scope L' f cdv)) (execs body (envOf qual scope L' f cdv))
        (fun fl s' => R (.ok (.ret (match fl with | .ret v => v | _ => .none))) s')
        (fun e s' => wpAny (model prog w) (A.deeper (envOf qual scope L' f cdv)) (leaving (envOf qual scope L' f cdv) e) (fun _ s'' => R (.error e) s'') (fun e' s'' => R (.error e') s'') s')
        { s with heap := h₁, toks := tk })
    (hco : scope.isCoroutine = false) (hgen : scope.isGenerator = false) (hk : scope.kind = .function)
    (hcell : ∀ x ∈ scope.names, x.2 ≠ .cell) : codeAny (model prog w) A (.call (.ref f) args) R s :=
  enter_def B X T hsz st N ho hcd hroom hbind hloc (fun L' h₁ F N' B' X' T' l => h L' h₁ _ (by rw [List.reverse_reverse] at F; exact F) N' B' X' T' l) hco hgen hk hcell
theorem spec_mono {w : World} {dp : Nat} {f : Addr} {args : List Value} {rel : List (Addr × Obj)} {R1 R2 : Value → List (Addr × Obj) → Prop} (S : Spec w dp f args rel R1) (h : ∀ v rel', R1 v rel' → R2 v rel') : Spec w dp f args rel R2 :=
  fun p loose mean mg mb outer base g s R B X T hsz st N hret => S p loose mean mg mb outer base g s R B X T hsz st N fun v h' tk' rel' a b c => hret v h' tk' rel' a b (h v rel' c)
theorem use_rv {w : World} {A A₀ : Around} {E : Value → Shared → Prop} {Q : Value → Shared → Prop} {p : Program} {loose : List Str} {mean : ExcName → Option Value} {mg mb : Str → Option Value} {env : Env} {outer : List Env} {base h₀ : Heap} {L : Addr} {m : Str → Option Value} {s : Shared} {news rel : List (Addr × Obj)}
    {dp : Nat} {f : Addr} {args : List Value} {c : Value}
    (B : PyProof.Rows.Below A₀ base outer h₀) (F : Fr h₀ L s.heap m) (X : (hd.heap_1 w.params).In h₀) (N : News h₀ L s.heap news) (T : Top p loose mean mg mb h₀)
    (S : Spec w dp f args rel (fun v rel' => rel' = rel ∧ v = c))
    (hA : A.frames = some (env :: outer)) (hf : env.frame = some L) (hke : env.scope.kind = .function) (hh : A.handled = none) (hg : A.guards = some []) (hd : A.depth ≤ dp) (hu : A.units ≤ 10 * dp)
    (hrel : ∀ q ∈ rel, q ∈ news)
    (k : ∀ h' tk' , Fr h₀ L h' m → News h₀ L h' news → Q c { s with heap := h', toks := tk' }) :
    wpAny (model PySem.Challenge.rw_hb0008_01.row.prog w) A (call (.ref f) args) Q E s :=
  use_ro B F X N T S hA hf hke hh hg hd hu hrel fun v h' tk' F' N' e => e ▸ k h' tk' F' N'
theorem use_rf {w : World} {A A₀ : Around} {E : Value → Shared → Prop} {Q : Value → Shared → Prop} {p : Program} {loose : List Str} {mean : ExcName → Option Value} {mg mb : Str → Option Value} {env : Env} {outer : List Env} {base h₀ : Heap} {L : Addr} {m : Str → Option Value} {s : Shared} {news rel : List (Addr × Obj)}
    {dp : Nat} {f : Addr} {args : List Value} {β : Type} {fv : β → Value}
    (B : PyProof.Rows.Below A₀ base outer h₀) (F : Fr h₀ L s.heap m) (X : (hd.heap_1 w.params).In h₀) (N : News h₀ L s.heap news) (T : Top p loose mean mg mb h₀)
    (S : Spec w dp f args rel (fun v rel' => rel' = rel ∧ ∃ t, v = fv t))
    (hA : A.frames = some (env :: outer)) (hf : env.frame = some L) (hke : env.scope.kind = .function) (hh : A.handled = none) (hg : A.guards = some []) (hd : A.depth ≤ dp) (hu : A.units ≤ 10 * dp)
    (hrel : ∀ q ∈ rel, q ∈ news)
    (k : ∀ h' tk' (t : β), Fr h₀ L h' m → News h₀ L h' news → Q (fv t) { s with heap := h', toks := tk' }) :
    wpAny (model PySem.Challenge.rw_hb0008_01.row.prog w) A (call (.ref f) args) Q E s :=
  use_ro B F X N T S hA hf hke hh hg hd hu hrel fun v h' tk' F' N' e => e.elim fun t e => e ▸ k h' tk' t F' N'
theorem use_rva {w : World} {A A₀ : Around} {E : Value → Shared → Prop} {Q : Value → Shared → Prop} {p : Program} {loose : List Str} {mean : ExcName → Option Value} {mg mb : Str → Option Value} {env : Env} {outer : List Env} {base h₀ : Heap} {L : Addr} {m : Str → Option Value} {s : Shared} {news rel : List (Addr × Obj)}
    {dp : Nat} {f : Addr} {args : List Value} {c : Value}
    (S : Spec w dp f args rel (fun v rel' => rel' = rel ∧ v = c))
    (k : ∀ h' tk' , Fr h₀ L h' m → News h₀ L h' news → Q c { s with heap := h', toks := tk' })
    (hA : A.frames = some (env :: outer) := by exact rfl) (hf : env.frame = some L := by exact rfl) (hke : env.scope.kind = .function := by exact rfl) (B : PyProof.Rows.Below A₀ base outer h₀ := by k_asm) (F : Fr h₀ L s.heap m := by k_asm) (X : (hd.heap_1 w.params).In h₀ := by k_asm) (N : News h₀ L s.heap news := by k_asm) (T : Top p loose mean mg mb h₀ := by k_asm)
    (hh : A.handled = none := by exact rfl) (hg : A.guards = some [] := by exact rfl) (hd : A.depth ≤ dp := by exact Nat.le_of_ble_eq_true rfl) (hu : A.units ≤ 10 * dp := by exact Nat.le_of_ble_eq_true rfl)
    (hrel : ∀ q ∈ rel, q ∈ news) :
    wpAny (model PySem.Challenge.rw_hb0008_01.row.prog w) A (call (.ref f) args) Q E s :=
  use_rv B F X N T S hA hf hke hh hg hd hu hrel k
theorem use_rfa {w : World} {A A₀ : Around} {E : Value → Shared → Prop} {Q : Value → Shared → Prop} {p : Program} {loose : List Str} {mean : ExcName → Option Value} {mg mb : Str → Option Value} {env : Env} {outer : List Env} {base h₀ : Heap} {L : Addr} {m : Str → Option Value} {s : Shared} {news rel : List (Addr × Obj)}
    {dp : Nat} {f : Addr} {args : List Value} {β : Type} {fv : β → Value}
    (S : Spec w dp f args rel (fun v rel' => rel' = rel ∧ ∃ t, v = fv t))
    (k : ∀ h' tk' (t : β), Fr h₀ L h' m → News h₀ L h' news → Q (fv t) { s with heap := h', toks := tk' })
    (hA : A.frames = some (env :: outer) := by exact rfl) (hf : env.frame = some L := by exact rfl) (hke : env.scope.kind = .function := by exact rfl) (B : PyProof.Rows.Below A₀ base outer h₀ := by k_asm) (F : Fr h₀ L s.heap m := by k_asm) (X : (hd.heap_1 w.params).In h₀ := by k_asm) (N : News h₀ L s.heap news := by k_asm) (T : Top p loose mean mg mb h₀ := by k_asm)
    (hh : A.handled = none := by exact rfl) (hg : A.guards = some [] := by exact rfl) (hd : A.depth ≤ dp := by exact Nat.le_of_ble_eq_true rfl) (hu : A.units ≤ 10 * dp := by exact Nat.le_of_ble_eq_true rfl)
    (hrel : ∀ q ∈ rel, q ∈ news) :
    wpAny (model PySem.Challenge.rw_hb0008_01.row.prog w) A (call (.ref f) args) Q E s :=
  use_rf B F X N T S hA hf hke hh hg hd hu hrel k
theorem use_roa {w : World} {A A₀ : Around} {E : Value → Shared → Prop} {Q : Value → Shared → Prop} {p : Program} {loose : List Str} {mean : ExcName → Option Value} {mg mb : Str → Option Value} {env : Env} {outer : List Env} {base h₀ : Heap} {L : Addr} {m : Str → Option Value} {s : Shared} {news rel : List (Addr × Obj)}
    {dp : Nat} {f : Addr} {args : List Value} {Ret : Value → Prop}
    (S : Spec w dp f args rel (fun v rel' => rel' = rel ∧ Ret v))
    (k : ∀ v h' tk' , Fr h₀ L h' m → News h₀ L h' news → Ret v → Q v { s with heap := h', toks := tk' })
    (hA : A.frames = some (env :: outer) := by exact rfl) (hf : env.frame = some L := by exact rfl) (hke : env.scope.kind = .function := by exact rfl) (B : PyProof.Rows.Below A₀ base outer h₀ := by k_asm) (F : Fr h₀ L s.heap m := by k_asm) (X : (hd.heap_1 w.params).In h₀ := by k_asm) (N : News h₀ L s.heap news := by k_asm) (T : Top p loose mean mg mb h₀ := by k_asm)
    (hh : A.handled = none := by exact rfl) (hg : A.guards = some [] := by exact rfl) (hd : A.depth ≤ dp := by exact Nat.le_of_ble_eq_true rfl) (hu : A.units ≤ 10 * dp := by exact Nat.le_of_ble_eq_true rfl)
    (hrel : ∀ q ∈ rel, q ∈ news) :
    wpAny (model PySem.Challenge.rw_hb0008_01.row.prog w) A (call (.ref f) args) Q E s :=
  use_ro B F X N T S hA hf hke hh hg hd hu hrel k
end
section
theorem sa_depth (d : Nat) (o : List Env) : (SA d o).depth = d := rfl
theorem sa_units (d : Nat) (o : List Env) : (SA d o).units = 10 * d := rfl
section
variable {prog : Program} {w : World} {A : Around} {E : Value → Shared → Prop} {s : Shared} {h₀ : Heap} {L : Addr} {m : Str → Option Value} {news : List (Addr × Obj)}
theorem last_place (n : Nat) : seqIndex? (-1) (n + 1) = some n := by
  unfold seqIndex?
  simp only [show ((-1 : Int) < 0) = True from by simp, if_true]
  rw [if_pos (by simp only [Bool.and_eq_true, decide_eq_true_eq]; omega)]
  congr 1
  omega
theorem my_last {value slice : PySem.Expr} {l : Addr} {init : List Value} {v : Value} {ne : Nat} {u : Tok} {Q : Value → Shared → Prop} (N : News h₀ L s.heap news) (hm : (l, listOf (init ++ [v]).toArray ne) ∈ news) (h : Q v s)
    (hs : subscripted slice false (.ref l) (.int (-1) u) = operate [.ref l, .int (-1) u] (getItem (.ref l) (.int (-1) u)) := by with_unfolding_all rfl) :
    wpAny (model prog w) A (subscriptTail value slice (.ref l) (.int (-1) u)) Q E s := by
  have hl : s.heap.IsList l (init ++ [v]).toArray := ⟨_, (N _ hm).1, rfl, ne, rfl⟩
  refine kde_neg (j := init.length) hl (by decide) (by decide) ?_ ?_ h hs
  · rw [List.length_append, List.length_singleton]; exact last_place _
  · simp
end
end
section
section
variable {prog : Program} {w : World} {A : Around} {E : Value → Shared → Prop} {s : Shared} {h₀ : Heap} {L D : Addr} {m : Str → Option Value} {news news' : List (Addr × Obj)}
theorem my_append {l : List Value} {n : Nat} {x : Value} {Q : Value → Shared → Prop} (F : Fr h₀ L s.heap m) (N : News h₀ L s.heap news) (U : Upd D (listOf l.toArray n) (listOf (l ++ [x]).toArray (n + 1)) news news')
    (hz : l.length ≤ sizeLine) (h : ∀ h', Fr h₀ L h' m → News h₀ L h' news' → Q .none { s with heap := h' }) : wpAny (model prog w) A (call (.builtin "list.append") [.ref D, x]) Q E s := by
  refine append_K (its := l.toArray) (n := n) F N ?_ h (by rw [List.size_toArray]; exact hz)
  rw [show l.toArray.push x = (l ++ [x]).toArray from by simp]
  exact U
end
abbrev ent (w : World) (n : String) (t : Tok) (v : Value) : DictEntry := ⟨PyData.keyHash w.params (Str.ofString n), .str (Str.ofString n) t, v⟩
abbrev stkD (w : World) (t1 t2 t3 t4 t5 : Tok) (dep ent' oi oe vi : Value) : Obj := dictOf [ent w "depth" t1 dep, ent w "entries" t2 ent', ent w "over_isolates" t3 oi, ent w "over_embeddings" t4 oe, ent w "valid_isolates" t5 vi] 5
abbrev entD (w : World) (t1 t2 t3 : Tok) (lv : Int) (tl : Tok) : Obj := dictOf [ent w "level" t1 (.int lv tl), ent w "override" t2 .none, ent w "is_isolate" t3 (.bool false)] 3
end
section
/-- a turn's end: the ledger may have grown, what is the loop's own stands -/
def TurnEnd (h₀ : Heap) (L : Addr) (own : List (Addr × Obj)) (Jn : (Str → Option Value) → List (Addr × Obj) → Prop) (s : Shared) (Rr : Value → Shared → Prop) (Rb : Shared → Prop) (f : Flow) (s' : Shared) : Prop := match f with
  | .ret v => Rr v s'
  | .brk => Rb s'
  | _ => ∃ h' tk m' news', s' = { s with heap := h', toks := tk } ∧ Fr h₀ L h' m' ∧ News h₀ L h' (news' ++ own) ∧ OwnOff own (news'.map (·.1)) ∧ Jn m' news'
theorem TurnEnd.next {h₀ h' : Heap} {L : Addr} {own news' nn : List (Addr × Obj)} {Jn : (Str → Option Value) → List (Addr × Obj) → Prop} {s : Shared} {Rr : Value → Shared → Prop} {Rb : Shared → Prop} {tk : Nat} {m' : Str → Option Value}
    (F : Fr h₀ L h' m') (N : News h₀ L h' nn) (hs : ∀ q ∈ news', q ∈ nn) (ho : ∀ q ∈ own, q ∈ nn) (hd : OwnOff own (news'.map (·.1))) (hj : Jn m' news') : TurnEnd h₀ L own Jn s Rr Rb .next { s with heap := h', toks := tk } :=
  ⟨h', tk, m', news', rfl, F, fun q hq => N q ((List.mem_append.mp hq).elim (hs q) (ho q)), hd, hj⟩
/-- between two turns of a loop -/
inductive LpS (s : Shared) (h₀ : Heap) (L : Addr) (n : Nat) (ok : Heap → Nat → Prop) (off : Nat → Prop) (J : Nat → (Str → Option Value) → List (Addr × Obj) → Prop) : Nat → Shared → Prop
  | mk (h' : Heap) (tk : Nat) (m' : Str → Option Value) (news' : List (Addr × Obj)) (i : Nat) : ok h' i → Fr h₀ L h' m' → News h₀ L h' news' → (∀ p ∈ news', off p.1) → J i m' news' → i ≤ n → LpS s h₀ L n ok off J (n + 1 - i) { s with heap := h', toks := tk }
section
variable {prog : Program} {w : World} {A : Around} {E : Value → Shared → Prop} {s : Shared} {env : Env} {h₀ : Heap} {m : Str → Option Value} {news : List (Addr × Obj)}
theorem my_call_enum {L l : Addr} {items : Array Value} {n : Nat} {Q : Value → Shared → Prop} (F : Fr h₀ L s.heap m) (N : News h₀ L s.heap news) (hl : s.heap.get? l = some (listOf items n))
    (h : ∀ (h' : Heap) (e it : Nat), Fr h₀ L h' m → News h₀ L h' news → IsEnum h' e it 0 .none → h'.IsListIter it l 0 → h'.IsList l items → it < e → l < it → L < it → (∀ p ∈ news, p.1 < it) → h₀.get? e = none → h₀.get? it = none → Q (.ref e) { s with heap := h' }) :
    wpAny (model prog w) A (call (.type "enumerate") [.ref l]) Q E s := by
  have hL : L < s.heap.objs.size := by obtain ⟨o, _, _, x, _⟩ := F.ns; exact Heap.lt_size x
  have none_of : ∀ b, s.heap.objs.size ≤ b → h₀.get? b = none := fun b hb => by
    cases e : h₀.get? b with
    | none => rfl
    | some o => exact absurd (Heap.lt_size (F.keep b o e)) (Nat.not_lt.mpr hb)
  refine call_enumerate_1 (n := n) hl fun h' he hit hz hk => ?_
  exact h h' _ _ (F.keeps hk) (fun p hp => ⟨hk _ _ (N p hp).1, (N p hp).2⟩) he hit ⟨_, hk _ _ hl, rfl, n, rfl⟩ (Nat.lt_succ_self _) (Heap.lt_size hl) hL (fun p hp => Heap.lt_size (N p hp).1)
    (none_of _ (Nat.le_succ _)) (none_of _ (Nat.le_refl _))
theorem for_enum {R : Result → Shared → Prop} {xi xc : Str} {pk pv pt : Pos} {x1 : Nat} {body : List Stmt} {e it l : Addr} {items : Array Value} (adr : List Addr)
    (J : Nat → (Str → Option Value) → List (Addr × Obj) → Prop)
    (hh : A.handled = none) (F : Fr h₀ env.locals s.heap m) (N : News h₀ env.locals s.heap news)
    (he : IsEnum s.heap e it 0 .none) (hit : s.heap.IsListIter it l 0) (hl : s.heap.IsList l items)
    (o1 : @LT.lt Nat _ it e) (o2 : @LT.lt Nat _ l it) (o3 : @LT.lt Nat _ env.locals it) (n1 : h₀.get? e = none) (n2 : h₀.get? it = none)
    (hadr : ∀ a ∈ adr, @LT.lt Nat _ a it) (hnews : ∀ p ∈ news, @LT.lt Nat _ p.1 it)
    (hxi : env.kindOf xi = some .local) (hxc : env.kindOf xc = some .local)
    (hp : (env.scope.kind == .class || (env.scope.kind == .module && env.locals != env.globals)) = false)
    (keepL : ∀ i h' m' news', Fr h₀ env.locals h' m' → News h₀ env.locals h' news' → J i m' news' → h'.IsList l items)
    (h0 : J 0 m news)
    (turn : ∀ i v t m₁ news₁ h tk own, items[i]? = some v → J i m₁ news₁ → OwnOff own adr → OwnOff own (news₁.map (·.1)) → Fr h₀ env.locals h (fun y => if y = xc then some v else if y = xi then some (.int i t) else m₁ y) → News h₀ env.locals h (news₁ ++ own) →
      wpAny (model prog w) A (execs body env) (TurnEnd h₀ env.locals own (J (i + 1)) { s with heap := h, toks := tk } (fun v s' => R (.ok (.ret v)) s') fun s' => R (.ok .next) s') (notedBy (model prog w) A env fun e s' => R (.error e) s') { s with heap := h, toks := tk })
    (done : ∀ h' tk m' news', Fr h₀ env.locals h' m' → News h₀ env.locals h' news' → J items.size m' news' → R (.ok .next) { s with heap := h', toks := tk }) :
    codeAny (model prog w) A (.forLoop (.Tuple [.Name xi pk, .Name xc pv] x1 pt) (.ref e) body [] env) R s := by
  have W := WalksT.enumerate (prog := prog) (w := w) hh e it l (Nat.ne_of_gt o1) (Nat.ne_of_lt (Nat.lt_trans o2 o1)) (Nat.ne_of_lt o2) items
  have le : l ≠ e := Nat.ne_of_lt (Nat.lt_trans o2 o1)
  have Le : env.locals ≠ e := Nat.ne_of_lt (Nat.lt_trans o3 o1)
  have Li : env.locals ≠ it := Nat.ne_of_lt o3
  refine codeAny_forLoop_any
    (LpS s h₀ env.locals items.size (fun h' i => ((∃ old, IsEnum h' e it ((i : Nat) : Int) old) ∧ h'.IsListIter it l i ∧ h'.IsList l items)) (fun a => a ≠ e ∧ a ≠ it) J) ?_ (items.size + 1)
    (.mk s.heap s.toks m news 0 ⟨⟨_, he⟩, hit, hl⟩ F N (fun p hp' => ⟨Nat.ne_of_lt (Nat.lt_trans (hnews p hp') o1), Nat.ne_of_lt (hnews p hp')⟩) h0 (Nat.zero_le _))
  intro k s' hS
  induction hS with
  | mk H tk m' news' i hst F' N' hoff hJ hi =>
  have next : ∀ h₁ : Heap, (∀ b o, b ∉ [e, it] → H.get? b = some o → h₁.get? b = some o) → Fr h₀ env.locals h₁ m' ∧ News h₀ env.locals h₁ news' := fun h₁ hk =>
    ⟨⟨F'.ns.at' fun o x => hk _ o (by simp [Le, Li]) x, fun b o x => hk b o (by
        intro hb
        rcases List.mem_cons.mp hb with rfl | hb
        · rw [n1] at x; cases x
        · rw [List.mem_singleton.mp hb, n2] at x; cases x) (F'.keep b o x), F'.above⟩,
      fun p hq => ⟨hk _ _ (by simp [(hoff p hq).1, (hoff p hq).2]) (N' p hq).1, (N' p hq).2⟩⟩
  by_cases hlt : i < items.size
  · refine W.item i _ _ _ hlt hst fun T vals h₁ tk₁ hPt _ hT hMid hk₁ => ?_
    obtain ⟨t, v, hv, rfl⟩ := hPt
    refine W.go _ x1 pt i T _ _ _ hMid fun h₂ hst₂ hk₂ => ?_
    have ht₂ : h₂.IsTuple T #[.int i t, v] := hT.at fun o x => hk₂ T o (W.apart i T h₁ hMid) x
    refine wpAny_assign_Tuple hh ht₂ rfl rfl fun h₃ hx₃ => ?_
    replace hx₃ : Heap.ExtBut h₂.objs.size h₂ h₃ := hx₃
    have up₃ : ∀ b o, h₂.get? b = some o → h₃.get? b = some o := fun b o x => hx₃ b o (Nat.ne_of_lt (Heap.lt_size x)) x
    obtain ⟨F₃, N₃⟩ := next h₃ fun b o hb x => up₃ b o (hk₂ b o hb (hk₁ b o hb x))
    show wpAny _ A (do holding [v] (assign (.Name xi pk) env (.int i t)); do holding [] (assign (.Name xc pv) env v); pure ()) _ _ _
    refine wpAny_bind (wpAny_holding (wpAny_assign_Name (wpAny_storeName_local hxi F₃.ns (fun h₄ hn₄ hs₄ => ?_) hp)))
    replace hs₄ : Heap.SameBut env.locals h₃ h₄ := hs₄
    have F₄ := F₃.set hn₄ hs₄
    refine wpAny_bind (wpAny_holding (wpAny_assign_Name (wpAny_storeName_local hxc F₄.ns (fun h₅ hn₅ hs₅ => wpAny_pure ?_) hp)))
    replace hs₅ : Heap.SameBut env.locals h₄ h₅ := hs₅
    have F₅ := F₄.set hn₅ hs₅
    have N₅ : News h₀ env.locals h₅ news' := (N₃.set hs₄).set hs₅
    have up₅ : ∀ b o, b ≠ env.locals → h₂.get? b = some o → h₅.get? b = some o := fun b o hb x => hs₅.extBut b o hb (hs₄.extBut b o hb (up₃ b o x))
    obtain ⟨⟨old₂, he₂⟩, hit₂, hl₂⟩ := hst₂
    have he₅ := up₅ e _ (Ne.symm Le) he₂
    obtain ⟨oi, hoi, hoi'⟩ := hit₂
    have hi₅ := up₅ it _ (Ne.symm Li) hoi
    have ow : ∀ b : Addr, b ≠ e → b ≠ it → ∀ p ∈ [(e, ({ cls := Value.type "enumerate", data := Data.fields #[Value.none, Value.bool false, Value.ref it, rawInt ((i + 1 : Nat) : Int), Value.none, old₂] } : Obj)), (it, oi)], p.1 ≠ b := by
      intro b hb1 hb2 p hp'
      rcases List.mem_cons.mp hp' with rfl | hp'
      · exact Ne.symm hb1
      · rw [List.mem_singleton.mp hp']; exact Ne.symm hb2
    refine wpAny_mono (turn i v t m' news' h₅ _ [(e, ({ cls := Value.type "enumerate", data := Data.fields #[Value.none, Value.bool false, Value.ref it, rawInt ((i + 1 : Nat) : Int), Value.none, old₂] } : Obj)), (it, oi)] hv hJ
      (fun p hp' b hb => ow b (Nat.ne_of_lt (Nat.lt_trans (hadr b hb) o1)) (Nat.ne_of_lt (hadr b hb)) p hp')
      (fun p hp' b hb => by
        obtain ⟨q, hq, rfl⟩ := List.mem_map.mp hb
        exact ow _ (hoff q hq).1 (hoff q hq).2 p hp') F₅ (fun p hp' => ?_)) (fun f s₃ h₆ => ?_) fun _ _ x => x
    · rcases List.mem_append.mp hp' with hp' | hp'
      · exact N₅ p hp'
      · rcases List.mem_cons.mp hp' with rfl | hp'
        · exact ⟨he₅, Ne.symm Le, n1⟩
        · rw [List.mem_singleton.mp hp']; exact ⟨hi₅, Ne.symm Li, n2⟩
    · have fin : ∀ tkx, TurnEnd h₀ env.locals [(e, ({ cls := Value.type "enumerate", data := Data.fields #[Value.none, Value.bool false, Value.ref it, rawInt ((i + 1 : Nat) : Int), Value.none, old₂] } : Obj)), (it, oi)] (J (i + 1)) { s with heap := h₅, toks := tkx } (fun v s' => R (.ok (.ret v)) s') (fun s' => R (.ok .next) s') .next s₃ →
          ∃ k', k' < items.size + 1 - i ∧ LpS s h₀ env.locals items.size (fun h' i => ((∃ old, IsEnum h' e it ((i : Nat) : Int) old) ∧ h'.IsListIter it l i ∧ h'.IsList l items)) (fun a => a ≠ e ∧ a ≠ it) J k' s₃ := by
        rintro tkx ⟨h₇, tk₇, m₇, news₇, rfl, F₇, N₇, hd₇, hJ₇⟩
        have g1 := (N₇ (e, _) (List.mem_append_right _ (.head _))).1
        have g2 := (N₇ (it, oi) (List.mem_append_right _ (.tail _ (.head _)))).1
        refine ⟨items.size + 1 - (i + 1), Nat.sub_lt_sub_left (Nat.lt_succ_of_lt hlt) (Nat.lt_succ_self i), .mk h₇ tk₇ m₇ news₇ (i + 1) ⟨⟨_, g1⟩, ⟨oi, g2, hoi'⟩, keepL (i + 1) h₇ m₇ news₇ F₇ (fun q hq => N₇ q (List.mem_append_left _ hq)) hJ₇⟩ F₇ (fun q hq => N₇ q (List.mem_append_left _ hq)) (fun q hq => ⟨fun x => ?_, fun x => ?_⟩) hJ₇ hlt⟩
        · exact hd₇ (e, _) (.head _) q.1 (List.mem_map_of_mem hq) x.symm
        · exact hd₇ (it, _) (.tail _ (.head _)) q.1 (List.mem_map_of_mem hq) x.symm
      cases f with
      | ret v => exact h₆
      | brk => exact h₆
      | cont => exact fin _ h₆
      | next => exact fin _ h₆
  · have hin : i = items.size := by omega
    subst hin
    refine W.done _ _ _ hst fun h₁ tk₁ hk₁ => wpAny_execs_nil ?_
    obtain ⟨F₁, N₁⟩ := next h₁ hk₁
    exact done h₁ tk₁ m' news' F₁ N₁ hJ
end
end
section
theorem kst_self {m : Str → Option Value} {ps : List (Str × Value)} (h : ∀ p ∈ ps, m p.1 = some p.2) : kstB m ps = m := by
  funext z
  exact kstB_eq h fun _ => rfl
theorem lie_of {g h : Heap} {L : Addr} {news rel' : List (Addr × Obj)} (N : News g L h news) (hs : ∀ q ∈ rel', q ∈ news) : Lie g h rel' := fun q hq => ⟨(N q (hs q hq)).1, (N q (hs q hq)).2.2⟩
section
variable {prog : Program} {w : World} {A : Around} {E : Value → Shared → Prop} {s : Shared} {env : Env} {h₀ : Heap} {L : Addr} {m : Str → Option Value}
/-- a comprehension's turns by what holds between them; the ledger may turn -/
theorem comp_rest {elt : Expr} {x : Str} {scope : Scope} {cl : List (Str × Addr)} {S : List (Addr × Obj) → Prop} {P : Nat → Value → Prop} {Fin : List Value → List (Addr × Obj) → Prop} {n : Nat} (J : Nat → List Value → List (Addr × Obj) → Prop) {news : List (Addr × Obj)}
    (h0 : J 0 [] news)
    (turn : ∀ i v ys news I oI C oC D m₂ h tk (E' : Value → Shared → Prop), i < n → P i v → J i ys news → LCg.NsObj oC m₂ → m₂ x = some v → Fr h₀ L h m → News h₀ L h ((I, oI) :: (C, oC) :: (D, LCg.lst ys) :: news) → LCg.Off3 I C D news → ((@Ne Nat I C) ∧ (@Ne Nat I D) ∧ (@Ne Nat C D)) →
      wpAny (model prog w) A (eval elt (compEnvC scope cl C env)) (LCg.CompEnd h₀ L m { s with heap := h, toks := tk } I oI C oC D (LCg.lst ys) S (fun y news' => J (i + 1) (ys ++ [y]) news')) E' { s with heap := h, toks := tk })
    (fin : ∀ ys news, J n ys news → Fin ys news) : LCg.CompRest prog w A h₀ L m env elt x scope cl s S P Fin n 0 [] news := by
  have key : ∀ (j i : Nat) (ys : List Value) (news : List (Addr × Obj)), i + j = n → J i ys news → LCg.CompRest prog w A h₀ L m env elt x scope cl s S P Fin j i ys news := by
    intro j
    induction j with
    | zero =>
      intro i ys news hi hJ
      have e : i = n := by omega
      subst e
      exact LCg.CompRest.zero (fin ys news hJ)
    | succ j ih =>
      intro i ys news hi hJ
      refine LCg.CompRest.succ ?_
      intro v I oI C oC D m₂ h tk E' hv hC hx F N off ne
      refine wpAny_mono (turn i v ys news I oI C oC D m₂ h tk E' (by omega) hv hJ hC hx F N off ne) (fun y s₂ hq => ?_) fun _ _ e => e
      obtain ⟨h', tk', nw, e, F', N', off', hS, hJ'⟩ := hq
      exact ⟨h', tk', nw, e, F', N', off', hS, ih (i + 1) _ _ (by omega) hJ'⟩
  exact key n 0 [] news (by omega) h0
end
end
section
/-- a while's turn ends: a smaller measure, the same word -/
def WEnd (h₀ : Heap) (L : Addr) (J : Nat → (Str → Option Value) → List (Addr × Obj) → Prop) (n : Nat) (s : Shared) (Rr : Value → Shared → Prop) (Rb : Shared → Prop) (f : Flow) (s' : Shared) : Prop := match f with
  | .ret v => Rr v s'
  | .brk => Rb s'
  | _ => ∃ h' tk m' news' k, k < n ∧ s' = { s with heap := h', toks := tk } ∧ Fr h₀ L h' m' ∧ News h₀ L h' news' ∧ J k m' news'
theorem WEnd.next {h₀ h' : Heap} {L : Addr} {news' nn : List (Addr × Obj)} {J : Nat → (Str → Option Value) → List (Addr × Obj) → Prop} {n : Nat} {s : Shared} {Rr : Value → Shared → Prop} {Rb : Shared → Prop} {tk : Nat} {m' : Str → Option Value} (k : Nat)
    (F : Fr h₀ L h' m') (N : News h₀ L h' nn) (hs : ∀ q ∈ news', q ∈ nn) (hk : k < n) (hj : J k m' news') : WEnd h₀ L J n s Rr Rb .next { s with heap := h', toks := tk } :=
  ⟨h', tk, m', news', k, hk, rfl, F, fun q hq => N q (hs q hq), hj⟩
section
variable {prog : Program} {w : World} {A : Around} {E : Value → Shared → Prop} {s : Shared} {env : Env} {h₀ : Heap} {m : Str → Option Value} {news : List (Addr × Obj)}
theorem while_rule {R : Result → Shared → Prop} {test : Expr} {body : List Stmt} (J : Nat → (Str → Option Value) → List (Addr × Obj) → Prop) (n : Nat)
    (F : Fr h₀ env.locals s.heap m) (N : News h₀ env.locals s.heap news) (h0 : J n m news)
    (turn : ∀ n m₁ news₁ h tk, J n m₁ news₁ → Fr h₀ env.locals h m₁ → News h₀ env.locals h news₁ →
      wpAny (model prog w) A (isTrue test env (eval test env)) (fun b s₂ =>
        if b then wpAny (model prog w) A (execs body env) (WEnd h₀ env.locals J n s (fun v s' => R (.ok (.ret v)) s') fun s' => R (.ok .next) s') (notedBy (model prog w) A env fun e s' => R (.error e) s') s₂
        else R (.ok .next) s₂) (notedBy (model prog w) A env fun e s' => R (.error e) s') { s with heap := h, toks := tk }) :
    codeAny (model prog w) A (.whileLoop test body [] env) R s := by
  refine codeAny_whileLoop (fun k s' => ∃ h' tk m' news', s' = { s with heap := h', toks := tk } ∧ Fr h₀ env.locals h' m' ∧ News h₀ env.locals h' news' ∧ J k m' news') ?_ n ⟨s.heap, s.toks, m, news, rfl, F, N, h0⟩
  rintro k s' ⟨h', tk, m', news', rfl, F', N', hJ⟩
  refine wpAny_mono (turn k m' news' h' tk hJ F' N') (fun b s₂ h₂ => ?_) fun _ _ x => x
  cases b with
  | false =>
    simp only [Bool.false_eq_true, if_false] at h₂ ⊢
    exact wpAny_execs_nil h₂
  | true =>
    simp only [if_true] at h₂ ⊢
    refine wpAny_mono h₂ (fun f s₃ h₃ => ?_) fun _ _ x => x
    cases f with
    | ret v => exact h₃
    | brk => exact h₃
    | cont => obtain ⟨h₄, tk₄, m₄, n₄, k₄, hk, rfl, F₄, N₄, J₄⟩ := h₃; exact ⟨k₄, hk, h₄, tk₄, m₄, n₄, rfl, F₄, N₄, J₄⟩
    | next => obtain ⟨h₄, tk₄, m₄, n₄, k₄, hk, rfl, F₄, N₄, J₄⟩ := h₃; exact ⟨k₄, hk, h₄, tk₄, m₄, n₄, rfl, F₄, N₄, J₄⟩
end
end
section
theorem allLt_mem {d : Addr} : ∀ {l : List (Addr × Obj)}, AllLt d l → ∀ p ∈ l, @LT.lt Nat _ p.1 d
  | [], _, _, h => nomatch h
  | _ :: _, h, p, hp => by
    rcases List.mem_cons.mp hp with rfl | hp
    · exact h.1
    · exact allLt_mem h.2 p hp
theorem ownOff_cons {own : List (Addr × Obj)} {d : Addr} {r : List Addr} (h : ∀ p ∈ own, @LT.lt Nat _ p.1 d) (hr : OwnOff own r) : OwnOff own (d :: r) := fun p hp b hb => by
  rcases List.mem_cons.mp hb with rfl | hb
  · exact Nat.ne_of_lt (h p hp)
  · exact hr p hp b hb
theorem ownOff_cons' {own : List (Addr × Obj)} {d : Addr} {r : List Addr} (h : AllLt d own) (hr : OwnOff own r) : OwnOff own (d :: r) := ownOff_cons (allLt_mem h) hr
theorem ownOff_sub {own : List (Addr × Obj)} {r r' : List Addr} (h : OwnOff own r) (hs : ∀ a ∈ r', a ∈ r) : OwnOff own r' := fun p hp b hb => h p hp b (hs b hb)
end
section
theorem name_head {P : Prop} {g h : Heap} {L a : Addr} {o : Obj} {r : List (Addr × Obj)} (_N : News g L h ((a, o) :: r)) (k : ∀ fd : Nat, fd = a → P) : P := k a rfl
end
section
section
variable {prog : Program} {w : World} {A : Around} {E : Value → Shared → Prop} {s : Shared}
theorem my_eq_ne {x y : Str} {t u : Tok} {Q : Value → Shared → Prop} (h : ¬ x = y) (k : Q (.bool false) s) : wpAny (model prog w) A (compareOp .Eq (.str x t) (.str y u)) Q E s :=
  eq_str (by rw [beq_eq_false_iff_ne.mpr h]; exact k)
theorem my_eq_eq {x y : Str} {t u : Tok} {Q : Value → Shared → Prop} (h : x = y) (k : Q (.bool true) s) : wpAny (model prog w) A (compareOp .Eq (.str x t) (.str y u)) Q E s :=
  eq_str (by rw [beq_iff_eq.mpr h]; exact k)
end
end
section
section
variable {prog : Program} {w : World} {A : Around} {E : Value → Shared → Prop} {s : Shared} {h₀ : Heap} {L : Addr} {news : List (Addr × Obj)}
theorem my_len {l : Addr} {vs : List Value} {n c : Nat} {Q : Value → Shared → Prop} (N : News h₀ L s.heap news) (hm : (l, listOf vs.toArray n) ∈ news) (hc : vs.length = c) (hf : c ≤ 100000)
    (h : Q (.int (c : Int) (s.toks + 1)) { s with toks := s.toks + 1 + 1 }) : wpAny (model prog w) A (call (.builtin "len") [.ref l]) Q E s := by
  subst hc
  refine len_list (items := vs.toArray) ⟨_, (N _ hm).1, rfl, n, rfl⟩ (by rw [List.size_toArray]; omega) ?_
  rw [List.size_toArray]; exact h
end
end
section
/-- where the walk is to stand still -/
def Halt (P : Prop) : Prop := P
theorem Halt.out {P : Prop} (h : Halt P) : P := h
theorem Halt.mk {P : Prop} (h : P) : Halt P := h
end
section
theorem name_head2 {P : Prop} {g h : Heap} {L a : Addr} {o : Obj} {r : List (Addr × Obj)} (_N : News g L h ((a, o) :: r)) (k : ∀ (fd : Nat) (o' : Obj), fd = a → o' = o → P) : P := k a o rfl rfl
end
section
section
variable {prog : Program} {w : World} {A : Around} {E : Value → Shared → Prop} {s : Shared} {h₀ : Heap} {L : Addr} {m : Str → Option Value}
theorem my_inK {K : Frag} {a : Addr} {l : List Value} {dd : Option Addr} {n : Nat} {sl : Array (Option Value)} {ys : List Str} {x : Str} {u : Tok} {Q : Value → Shared → Prop} (b : Bool) (F : Fr h₀ L s.heap m) (X : K.In h₀)
    (hl : K.lookup a = some ⟨.type "tuple", dd, .seq l.toArray n, sl⟩) (hi : StrsAre l ys) (hb : ys.any (· == x) = b) (h : Q (.bool b) s) : wpAny (model prog w) A (compareOp .In (.str x u) (.ref a)) Q E s := by
  refine in_tuple_strs (tupK (X.keeps F.keep) hl) (ys := ys) hi ?_
  rw [hb]; exact h
end
end
section
theorem name_inst {P : Prop} {g h : Heap} {L x d C : Addr} {o : Obj} {r : List (Addr × Obj)} (_N : News g L h ((x, instObj C d) :: (d, o) :: r)) (k : ∀ x' d' : Nat, x' = x → d' = d → P) : P := k x d rfl rfl
end
section
theorem last_snoc : ∀ (p : List Value) (y : Value), kl_last (p ++ [y]) = some (p, y)
  | [], _ => rfl
  | x :: [], y => rfl
  | x :: z :: r, y => by
    have ih := last_snoc (z :: r) y
    show kl_last (x :: ((z :: r) ++ [y])) = _
    rw [List.cons_append] at ih ⊢
    simp only [kl_last, ih] at *
    simp [ih]
section
variable {prog : Program} {w : World} {A : Around} {E : Value → Shared → Prop} {s : Shared} {h₀ : Heap} {L D : Addr} {m : Str → Option Value} {news news' : List (Addr × Obj)}
theorem my_pop {p : List Value} {y : Value} {n : Nat} {Q : Value → Shared → Prop} (F : Fr h₀ L s.heap m) (N : News h₀ L s.heap news) (U : Upd D (listOf (p ++ [y]).toArray n) (listOf p.toArray (n + 1)) news news')
    (hz : p.length + 1 ≤ sizeLine) (h : ∀ h', Fr h₀ L h' m → News h₀ L h' news' → Q y { s with heap := h' }) : wpAny (model prog w) A (call (.builtin "list.pop") [.ref D]) Q E s :=
  kl_pop F N (last_snoc p y) U (by simpa using hz) h
end
end
section
theorem name_ex {P : Prop} {g h : Heap} {L Cl Lv El a d d2 S dS C1 C2 : Addr} {o1 o2 o3 o4 : Obj} {r : List (Addr × Obj)} (_N : News g L h ((Cl, o1) :: (Lv, o2) :: (El, o3) :: (a, instObj C1 d) :: (d2, o4) :: (S, instObj C2 dS) :: r))
    (k : ∀ Cl' Lv' El' a' d' S' dS' : Nat, Cl' = Cl → Lv' = Lv → El' = El → a' = a → d' = d → S' = S → dS' = dS → P) : P := k _ _ _ _ _ _ _ rfl rfl rfl rfl rfl rfl rfl
theorem with_sub {P : Prop} {g h : Heap} {L : Addr} {m : Str → Option Value} {news : List (Addr × Obj)} (_F : Fr g L h m) (N : News g L h news) (J : (Str → Option Value) → List (Addr × Obj) → Prop) (hJ : ∃ l', J m l' ∧ ∀ q ∈ l', q ∈ news)
    (k : ∀ l', J m l' → News g L h l' → (∀ q ∈ l', q ∈ news) → P) : P := let ⟨l', h1, h2⟩ := hJ; k l' h1 (fun q hq => N q (h2 q hq)) h2
theorem ownOff_app {a b : List (Addr × Obj)} {r : List Addr} (ha : OwnOff a r) (hb : OwnOff b r) : OwnOff (a ++ b) r := fun p hp => (List.mem_append.mp hp).elim (ha p) (hb p)
theorem ownOff_nil {r : List Addr} : OwnOff [] r := fun _ hp => nomatch hp
end
section
/-- two places that differ (hidden from arithmetic) -/
def NE (a b : Nat) : Prop := a ≠ b
theorem NE.out {a b : Nat} (h : NE a b) : a ≠ b := h
theorem NE.out' {a b : Nat} (h : NE b a) : a ≠ b := Ne.symm h
theorem NE.mk {a b : Nat} (h : a ≠ b) : NE a b := h
end
section
theorem ownOff_join {a : List (Addr × Obj)} {x1 x2 x3 x4 x5 x6 y1 y2 : Addr} (h : OwnOff a [x1, x2, x3, x4, x5, x6]) (h' : OwnOff a [y1, y2]) : OwnOff a [x1, x2, x3, x4, x5, x6, y1, y2] := fun p hp b hb => by
  rcases List.mem_append.mp (show b ∈ [x1, x2, x3, x4, x5, x6] ++ [y1, y2] from hb) with hb | hb
  · exact h p hp b hb
  · exact h' p hp b hb
end
section
theorem my_callK0 {M : Model} {A : Around} {E : Value → Shared → Prop} {s : Shared} {K : Frag} {h₀ : Heap} {L : Addr} {m : Str → Option Value} {f : Value} {first : List Value} {pos : Pos} {env : Env} {Q : Value → Shared → Prop} (F : Fr h₀ L s.heap m) (X : K.In h₀) (hk : keepIn K f = true)
    (h : wpAny M A (call f (first ++ [])) Q E s) : wpAny M A (callWith pos f first (backTo pos (starEach [] env)) []) Q E s := callWith_K0 (X.keeps F.keep) hk h
end
section
theorem name_two {P : Prop} {g h : Heap} {L a b : Addr} {o1 o2 : Obj} {r : List (Addr × Obj)} (_N : News g L h ((a, o1) :: (b, o2) :: r)) (k : ∀ (oL oC : Obj), oL = o1 → oC = o2 → P) : P := k _ _ rfl rfl
theorem ownOff_cons2 {own : List (Addr × Obj)} {x d : Addr} {r : List Addr} (h : ∀ q ∈ own, x ≠ q.1 ∧ d ≠ q.1) (hr : OwnOff own r) : OwnOff own (x :: d :: r) := fun p hp b hb => by
  rcases List.mem_cons.mp hb with rfl | hb
  · exact Ne.symm (h p hp).1
  · rcases List.mem_cons.mp hb with rfl | hb
    · exact Ne.symm (h p hp).2
    · exact hr p hp b hb
theorem ownOff_two {ents : List (Addr × Obj)} {a d x1 x2 x3 x4 x5 x6 : Nat} {oa od : Obj} (ha : NE a x1 ∧ NE a x2 ∧ NE a x3 ∧ NE a x4 ∧ NE a x5 ∧ NE a x6) (hd : NE d x1 ∧ NE d x2 ∧ NE d x3 ∧ NE d x4 ∧ NE d x5 ∧ NE d x6) (h : OwnOff ents [x1, x2, x3, x4, x5, x6]) :
    OwnOff ((a, oa) :: (d, od) :: ents) [x1, x2, x3, x4, x5, x6] := by
  have one : ∀ {y : Nat}, (NE y x1 ∧ NE y x2 ∧ NE y x3 ∧ NE y x4 ∧ NE y x5 ∧ NE y x6) → ∀ b ∈ [x1, x2, x3, x4, x5, x6], y ≠ b := by
    intro y hy b hb
    simp only [List.mem_cons, List.not_mem_nil, or_false] at hb
    rcases hb with e | e | e | e | e | e <;> rw [e]
    all_goals first | exact hy.1 | exact hy.2.1 | exact hy.2.2.1 | exact hy.2.2.2.1 | exact hy.2.2.2.2.1 | exact hy.2.2.2.2.2
  intro p hp b hb
  rcases List.mem_cons.mp hp with e | hp
  · rw [e]; exact one ha b hb
  · rcases List.mem_cons.mp hp with e | hp
    · rw [e]; exact one hd b hb
    · exact h p hp b hb
end
section
theorem sub_cons {a : Addr × Obj} {l N : List (Addr × Obj)} (h1 : a ∈ N) (h2 : ∀ q ∈ l, q ∈ N) : ∀ q ∈ a :: l, q ∈ N := fa_cons (h1) (h2)
theorem sub_nil {N : List (Addr × Obj)} : ∀ q ∈ ([] : List (Addr × Obj)), q ∈ N := List.forall_mem_nil _
theorem st_cons {y : Str} {v : Value} {l : List (Str × Value)} {m : Str → Option Value} (h1 : m y = some v) (h2 : ∀ q ∈ l, m q.1 = some q.2) : ∀ q ∈ (y, v) :: l, m q.1 = some q.2 := fa_cons (h1) (h2)
theorem st_nil {m : Str → Option Value} : ∀ q ∈ ([] : List (Str × Value)), m q.1 = some q.2 := List.forall_mem_nil _
end
section
section
variable {prog : Program} {w : World} {A : Around} {E : Value → Shared → Prop} {s : Shared} {h₀ : Heap} {L : Addr} {m : Str → Option Value} {news : List (Addr × Obj)}
theorem my_max {a b : Int} {t u : Tok} {Q : Value → Shared → Prop} (hc : ¬ b > a) (hh : A.handled = none) (F : Fr h₀ L s.heap m) (N : News h₀ L s.heap news)
    (h : ∀ h' tk, Fr h₀ L h' m → News h₀ L h' news → Q (.int a t) { s with heap := h', toks := tk }) : wpAny (model prog w) A (call (.builtin "max") [.int a t, .int b u]) Q E s := by
  refine max_two_N hh F N fun h' tk F' N' => ?_
  rw [if_neg hc, if_neg hc]
  exact h h' tk F' N'
theorem my_min {a b : Int} {t u : Tok} {Q : Value → Shared → Prop} (hc : ¬ b < a) (hh : A.handled = none) (F : Fr h₀ L s.heap m) (N : News h₀ L s.heap news)
    (h : ∀ h' tk, Fr h₀ L h' m → News h₀ L h' news → Q (.int a t) { s with heap := h', toks := tk }) : wpAny (model prog w) A (call (.builtin "min") [.int a t, .int b u]) Q E s := by
  refine min_two_N hh F N fun h' tk F' N' => ?_
  rw [if_neg hc, if_neg hc]
  exact h h' tk F' N'
theorem my_sub {a b : Int} {t u : Tok} {Q : Value → Shared → Prop} (h : ∀ t' tk, Q (.int (a - b) t') { s with toks := tk }) : wpAny (model prog w) A (binaryOp .Sub (.int a t) (.int b u)) Q E s := PyProof.Rows.sub_int (h _ _)
theorem my_add {a b : Int} {t u : Tok} {Q : Value → Shared → Prop} (h : ∀ t' tk, Q (.int (a + b) t') { s with toks := tk }) : wpAny (model prog w) A (binaryOp .Add (.int a t) (.int b u)) Q E s := PyProof.Rows.add_int (h _ _)
end
section
variable {M : Model} {A : Around} {E : Value → Shared → Prop} {s : Shared} {h₀ : Heap} {L a : Addr} {m : Str → Option Value} {cn : Str} {cs : Scope} {ccd : Value} {cl : List (Str × Addr)} {x : Str} {news : List (Addr × Obj)}
theorem my_storeInt {i : Int} {t : Tok} {Q : Unit → Shared → Prop} (F : Fr h₀ L s.heap m) (N : News h₀ L s.heap news)
    (h : ∀ h' t' tk, Fr h₀ L h' (fun y => if y = x then some (.int i t') else m y) → News h₀ L h' news → Q () { s with heap := h', toks := tk })
    (hk : cs.kind = .function := by rfl) (hx : (envX cn cs L a ccd cl).kindOf x = some .local := by rfl) : wpAny M A (storeName (envX cn cs L a ccd cl) x (.int i t)) Q E s :=
  storeX_L F N (fun h' F' N' => h h' t _ F' N') hk hx
end
end
section
/-- the defs of the text at which the walk stops: their contracts are laid by hand -/
def stops : List Nat := [121, 142, 316, 268, 289, 200, 335, 157, 37, 30, 240]
theorem haltAt {M : Model} {A : Around} {f : Nat} {args : List Value} {Q : Value → Shared → Prop} {E : Value → Shared → Prop} {s : Shared} (_hf : stops.contains f = true) (h : Halt (wpAny M A (call (.ref f) args) Q E s)) : wpAny M A (call (.ref f) args) Q E s := h
end
section
/-- between two elements of a comprehension -/
inductive CpJ (N0 : List (Addr × Obj)) (P : Prop) : List (Addr × Obj) → Prop
  | mk : P → CpJ N0 P N0
end
local macro_rules | `(tactic| k_room) => `(tactic| exact Nat.le_of_ble_eq_true rfl)
local macro_rules | `(tactic| walk_at "subscriptTail") => `(tactic| (k_here; (with_reducible show wpAny _ _ (subscriptTail _ _ (Value.ref _) (Value.int (-1) _)) _ _ _); k_dflt (refine' my_last (by k_asm) (by k_mem) ?_ (by with_unfolding_all rfl)); k_whole))
local macro_rules | `(tactic| walk_at "call builtin:list.append") => `(tactic| (k_here; (with_reducible show wpAny _ _ (call (Value.builtin _) [Value.ref _, _]) _ _ _); k_dflt (refine' my_append (by k_asm) (by k_asm) (by k_upd) (by ((try simp only [List.length_append, List.length_cons, List.length_nil]); rw [sizeLine_eq]; omega)) ?_; k_whole); intro h' F' N'; (try k_sweep)))
local macro_rules | `(tactic| walk_at "exec For Tuple Call") => `(tactic| (k_here; refine wpAny_For ?_ ?hs; (case hs => intro _; with_unfolding_all rfl)))
local macro_rules | `(tactic| walk_at "call type:enumerate") => `(tactic| (k_here; k_dflt (refine' my_call_enum (by k_asm) (by k_asm) (by exact (News.get (by k_asm) (by k_mem))) ?_; k_whole); intro h' e' it' F' N' he' hit' hl' o1' o2' o3' l1' n1' n2'; (have l0' := l1'); (try k_lt l1')))
local macro_rules | `(tactic| walk_at "pyIter ref") => `(tactic| (k_here; refine wpAny_pyIter_enum (by assumption) ?_))
local macro_rules | `(tactic| walk_at "exec While") => `(tactic| (k_here; refine wpAny_While ?_))
local macro_rules | `(tactic| walk_at "compareOp Eq str str") => `(tactic| (k_here; refine my_eq_ne (by assumption) ?_))
local macro_rules | `(tactic| walk_at "compareOp Eq str str") => `(tactic| (k_here; refine my_eq_eq (by assumption) ?_))
local macro_rules | `(tactic| walk_at "call builtin:len") => `(tactic| (k_here; k_dflt (refine' my_len (by k_asm) (by k_mem) (by assumption) (by omega) ?_)))
local macro_rules | `(tactic| walk_at "eval ListComp") => `(tactic| (k_here; k_dflt (refine LCg.ListComp_U (F₀ := by k_asm) (by with_unfolding_all rfl) (by decide) (by rfl) (by decide) (by rfl) ?_)))
local macro_rules | `(tactic| walk_at "CompSrc") => `(tactic| (k_here; refine Halt.out ?_))
local macro_rules | `(tactic| walk_at "compareOp In str ref") => `(tactic| (k_here; k_dflt (first | (refine' my_inK false (by k_asm) (by k_asm) (by k_is) (by (repeat' constructor)) (by first | decide | assumption) ?_) | (refine' my_inK true (by k_asm) (by k_asm) (by k_is) (by (repeat' constructor)) (by first | decide | assumption) ?_))))
local macro_rules | `(tactic| walk_at "call builtin:list.pop") => `(tactic| (k_here; (with_reducible show wpAny _ _ (call (Value.builtin _) [Value.ref _]) _ _ _); k_dflt (refine' my_pop (by k_asm) (by k_asm) (by k_upd) (by (rw [sizeLine_eq]; omega)) ?_); intro h' F' N'))
local macro_rules | `(tactic| walk_at "call ref") => `(tactic| (k_here; refine haltAt (by with_unfolding_all rfl) ?_))
local macro_rules | `(tactic| walk_at "zz lt") => `(tactic| with_reducible first | assumption | exact And.left (by assumption) | exact And.left (And.right (by assumption)) | exact And.left (And.right (And.right (by assumption))) | exact And.left (And.right (And.right (And.right (by assumption)))) | exact And.left (And.right (And.right (And.right (And.right (by assumption))))) | exact And.left (And.right (And.right (And.right (And.right (And.right (by assumption)))))) | exact And.left (And.right (And.right (And.right (And.right (And.right (And.right (by assumption))))))) | exact And.left (And.right (And.right (And.right (And.right (And.right (And.right (And.right (by assumption)))))))) | exact And.left (And.right (And.right (And.right (And.right (And.right (And.right (And.right (And.right (by assumption))))))))) | exact And.left (And.right (And.right (And.right (And.right (And.right (And.right (And.right (And.right (And.right (by assumption)))))))))))
local macro_rules | `(tactic| k_ne) => `(tactic| (refine neN ?_; (try dsimp only); first | exact NE.out (by with_reducible assumption) | exact NE.out' (by with_reducible assumption) | exact Nat.ne_of_lt (by walk_at "zz lt") | exact Nat.ne_of_gt (by walk_at "zz lt") | omega))
local macro_rules | `(tactic| walk_at "callWith ref cons nil") => `(tactic| (k_here; k_dflt (refine' my_callK0 (by k_asm) (by k_asm) (by k_is) ?_; k_whole)))
local macro_rules | `(tactic| k_allIn) => `(tactic| first | exact sub_nil | (refine sub_cons (by k_memK) ?_; k_allIn))
local macro_rules | `(tactic| kst_all1) => `(tactic| first | exact st_nil | (refine st_cons (by with_unfolding_all rfl) ?_; kst_all1))
local macro_rules | `(tactic| walk_at "storeName") => `(tactic| (k_here; (with_reducible show wpAny _ _ (storeName _ _ (Value.int _ _)) _ _ _); k_dflt (refine' my_storeInt (by k_asm) (by k_asm) ?_ (by rfl) (by rfl); k_whole; intro h' t' tk' F' N'; (try k_sweep))))
section
theorem half_bounds {lo hi : Int} (h0 : 0 ≤ lo) (h : lo < hi) : lo ≤ (lo + hi).fdiv 2 ∧ (lo + hi).fdiv 2 < hi := by
  have := fdiv_fmod_facts (lo + hi) 2
  rw [Int.fdiv_eq_ediv_of_nonneg _ (by decide)]
  omega
inductive PcJ (St n : Nat) (vs : List Value) (ns : List Int) (c : Int) (tc : Tok) (k : Nat) (m : Str → Option Value) : List (Addr × Obj) → Prop
  | mk (lo hi : Int) (tl th : Tok) : (∀ p ∈ [(Str.ofString "firsts", Value.ref St), (Str.ofString "number", Value.int c tc), (Str.ofString "low", Value.int lo tl), (Str.ofString "high", Value.int hi th)], m p.1 = some p.2) → 0 ≤ lo → lo ≤ hi → hi ≤ (ns.length : Int) → k = (hi - lo).toNat → (∀ (i : Nat) x, ns[i]? = some x → (i : Int) < lo → x ≤ c) → (∀ (i : Nat) x, ns[i]? = some x → hi ≤ (i : Int) → c < x) → PcJ St n vs ns c tc k m [(St, listOf vs.toArray n)]
theorem place_spec (w : World) (St : Nat) (vs : List Value) (ns : List Int) (n : Nat) (c : Int) (tc : Tok) (hi : IntsAre vs ns) (hlen : ns.length ≤ 1000)
  (hsort : ∀ (i j : Nat) x y, ns[i]? = some x → ns[j]? = some y → i ≤ j → x ≤ y) :
  Spec w 900 207 [.ref St, .int c tc] [(St, listOf vs.toArray n)]
   (fun v rel' => rel' = [(St, listOf vs.toArray n)] ∧ ∃ t r, v = .int (r - 1) t ∧ 0 ≤ r ∧ r ≤ (ns.length : Int) ∧ (∀ (i : Nat) x, ns[i]? = some x → (i : Int) < r → x ≤ c) ∧ (∀ (i : Nat) x, ns[i]? = some x → r ≤ (i : Int) → c < x)) := by
  unfold Spec
  k_fill
  intro p loose mean mg mb outer base g s R B X T hsz st N hret
  refine' enter_defB [(Str.ofString "number", .int c tc), (Str.ofString "firsts", .ref St)] (K := hd.heap_1 w.params) B X T hsz st N ?k1 ?k2 ?k3 ?k4 ?k5 ?_ ?c1 ?c2 ?c3 ?c4
  case k1 => k_is
  case k2 => k_is
  case k3 => exact Nat.le_of_ble_eq_true rfl
  case k4 => exact BindsTo.of_eq rfl
  case k5 => exact locs rfl
  case c1 => exact rfl
  case c2 => exact rfl
  case c3 => exact rfl
  case c4 => decide
  intro L' h' tk0 F' N' B' X' T' l1
  try dsimp only [DT.rel] at N' l1
  try k_lt l1
  try dsimp only
  show wpAny _ _ _ _ _ _
  k_fold
  k_steps
  refine while_rule (h₀ := g) (m := _) (J := PcJ St n vs ns c tc) ns.length (by assumption) (by assumption) ?_ ?_
  · refine .mk 0 (ns.length : Int) _ _ (by kst_all) (Int.le_refl _) (Int.natCast_nonneg _) (Int.le_refl _) (by omega) (fun i x _ h => by omega) (fun i x h h' => ?_)
    have := (List.getElem?_eq_some_iff.mp h).1
    omega
  · intro k m₁ news₁ h tk hJ F₁ N₁
    induction hJ with
    | mk lo hi' tl th hm a1 a2 a3 hk a4 a5 =>
    rw [← kst_self hm] at F₁
    k_fold
    k_steps
    · rename lo < hi' => b1
      rename (ns.getD _ 0 ≤ c) => b2
      have b3 := half_bounds a1 b1
      have b4 := ints_getD (ns := ns) (Int.le_trans a1 b3.1) (Int.lt_of_lt_of_le b3.2 a3)
      refine WEnd.next (hi' - ((lo + hi').fdiv 2 + 1)).toNat (by assumption) (by assumption) (fun _ h => h) (by omega) (.mk ((lo + hi').fdiv 2 + 1) hi' _ _ (by kst_all) (by omega) (by omega) a3 rfl (fun i x h h' => ?_) a5)
      exact Int.le_trans (hsort i _ x _ h b4 (by omega)) b2
    · rename lo < hi' => b1
      rename (¬ ns.getD _ 0 ≤ c) => b2
      have b3 := half_bounds a1 b1
      have b4 := ints_getD (ns := ns) (Int.le_trans a1 b3.1) (Int.lt_of_lt_of_le b3.2 a3)
      refine WEnd.next ((lo + hi').fdiv 2 - lo).toNat (by assumption) (by assumption) (fun _ h => h) (by omega) (.mk lo ((lo + hi').fdiv 2) _ _ (by kst_all) (by omega) (by omega) (by omega) rfl a4 (fun i x h h' => ?_))
      exact Int.lt_of_lt_of_le (Int.not_le.mp b2) (hsort _ i _ x b4 h (by omega))
    · rename ¬ lo < hi' => b1
      have e : lo = hi' := by omega
      subst e
      exact hret _ _ _ _ (Fr.keep (by assumption)) (lie_of (by assumption) fun _ h => h) ⟨rfl, _, lo, rfl, a1, a3, a4, a5⟩
end
section
inductive Kd where
  | L | R | RLE | LRE | PDF | B
def Kd.nm : Kd → Str
  | .L => Str.ofString "L"
  | .R => Str.ofString "R"
  | .RLE => Str.ofString "RLE"
  | .LRE => Str.ofString "LRE"
  | .PDF => Str.ofString "PDF"
  | .B => Str.ofString "B"
def Kd.num : Kd → Int
  | .L => 0
  | .R => 1
  | .RLE => 2
  | .LRE => 3
  | .PDF => 4
  | .B => 5
abbrev datD (w : World) (t1 t2 t3 t4 : Tok) (df M pr wo : Value) : Obj := dictOf [ent w "defaults" t1 df, ent w "maps" t2 M, ent w "properties" t3 pr, ent w "words" t4 wo] 4
abbrev rmD (w : World) (t1 t2 t3 : Tok) (df St Vl : Value) : Obj := dictOf [ent w "default" t1 df, ent w "starts" t2 St, ent w "values" t3 Vl] 3
abbrev strD (w : World) (o : Obj) (kvs : List (Str × Value)) : Prop := o.IsDictOf (PySem.strKind PySem.Challenge.rw_hb0008_01.row.prog w) kvs
set_option genInjectivity false in
set_option genSizeOfSpec false in
/-- the database's objects -/
structure DT (w : World) where
  D : Nat
  dD : Nat
  M : Nat
  RM : Nat
  dR : Nat
  St : Nat
  Vl : Nat
  oM : Obj
  t1 : Tok
  t2 : Tok
  t3 : Tok
  t4 : Tok
  t5 : Tok
  t6 : Tok
  t7 : Tok
  df : Value
  pr : Value
  wo : Value
  df2 : Value
  n1 : Nat
  n2 : Nat
  vs : List Value
  ws : List Value
  hM : oM.IsDictOf (PySem.strKind PySem.Challenge.rw_hb0008_01.row.prog w) [(Str.ofString "bc", .ref RM)]
  lo : ((M : Addr) == sysModules) = false
  hs : IntsAre vs [0, 501, 502, 503, 504, 505, 506]
  hw : StrsAre ws [Kd.nm .L, Kd.nm .R, Kd.nm .RLE, Kd.nm .LRE, Kd.nm .PDF, Kd.nm .B, Kd.nm .L]
abbrev DT.rel {w : World} (d : DT w) : List (Addr × Obj) := [(d.D, instObj 306 d.dD), (d.dD, datD w d.t1 d.t2 d.t3 d.t4 d.df (.ref d.M) d.pr d.wo), (d.M, d.oM), (d.RM, instObj 257 d.dR), (d.dR, rmD w d.t5 d.t6 d.t7 d.df2 (.ref d.St) (.ref d.Vl)),
  (d.St, listOf d.vs.toArray d.n1), (d.Vl, listOf d.ws.toArray d.n2)]
theorem starts_sorted : ∀ (i j : Nat) (x y : Int), [(0 : Int), 501, 502, 503, 504, 505, 506][i]? = some x → [(0 : Int), 501, 502, 503, 504, 505, 506][j]? = some y → i ≤ j → x ≤ y := by
  intro i j x y h1 h2 h
  obtain ⟨h3, h4⟩ := List.getElem?_eq_some_iff.mp h1
  obtain ⟨h5, h6⟩ := List.getElem?_eq_some_iff.mp h2
  simp only [List.length_cons, List.length_nil] at h3 h5
  subst h4 h6
  have : ∀ i j : Fin 7, i ≤ j → [(0 : Int), 501, 502, 503, 504, 505, 506][i] ≤ [(0 : Int), 501, 502, 503, 504, 505, 506][j] := by decide
  exact this ⟨i, h3⟩ ⟨j, h5⟩ h
def pl (ns : List Int) (c : Int) : Int := (ns.takeWhile (· ≤ c)).length
theorem place_r {ns : List Int} {c r : Int} (q : 0 ≤ r ∧ r ≤ (ns.length : Int) ∧ (∀ (i : Nat) x, ns[i]? = some x → (i : Int) < r → x ≤ c) ∧ (∀ (i : Nat) x, ns[i]? = some x → r ≤ (i : Int) → c < x)) : r = pl ns c := by
  unfold pl
  induction ns generalizing r with
  | nil => simp only [List.length_nil] at q; simp; omega
  | cons a t ih =>
    obtain ⟨q1, q2, q3, q4⟩ := q
    rw [List.length_cons] at q2
    by_cases h : a ≤ c
    · have hr : 0 < r := by
        rcases Int.lt_or_le 0 r with h0 | h0
        · exact h0
        · have := q4 0 a rfl (by omega); omega
      have := @ih (r - 1) ⟨by omega, by omega, fun i x hx hi => q3 (i + 1) x hx (by omega), fun i x hx hi => q4 (i + 1) x hx (by omega)⟩
      rw [List.takeWhile_cons_of_pos (by simpa using h), List.length_cons]
      omega
    · have hr : r = 0 := by
        rcases Int.lt_or_le 0 r with h0 | h0
        · exact absurd (q3 0 a rfl (by omega)) h
        · omega
      rw [List.takeWhile_cons_of_neg (by simpa using h)]
      exact hr
theorem place_of (k : Kd) (r : Int) (h0 : 0 ≤ r) (h1 : r ≤ ([(0 : Int), 501, 502, 503, 504, 505, 506].length : Int))
    (h2 : ∀ (i : Nat) x, [(0 : Int), 501, 502, 503, 504, 505, 506][i]? = some x → (i : Int) < r → x ≤ 500 + k.num)
    (h3 : ∀ (i : Nat) x, [(0 : Int), 501, 502, 503, 504, 505, 506][i]? = some x → r ≤ (i : Int) → 500 + k.num < x) : r - 1 = k.num := by
  rw [place_r ⟨h0, h1, h2, h3⟩]
  cases k <;> decide
section
variable {prog : Program} {w : World} {A : Around} {E : Value → Shared → Prop} {s : Shared} {h₀ : Heap} {L : Addr} {news : List (Addr × Obj)}
theorem my_item {value slice : PySem.Expr} {l : Addr} {vs : List Value} {v : Value} {ne : Nat} {k : Int} {u : Tok} {Q : Value → Shared → Prop} (N : News h₀ L s.heap news) (hm : (l, listOf vs.toArray ne) ∈ news) (h0 : 0 ≤ k) (h1 : k < 2 ^ 63) (hv : vs[k.toNat]? = some v) (h : Q v s)
    (hs : subscripted slice false (.ref l) (.int k u) = operate [.ref l, .int k u] (getItem (.ref l) (.int k u)) := by with_unfolding_all rfl) :
    wpAny (model prog w) A (subscriptTail value slice (.ref l) (.int k u)) Q E s := by
  have hl : s.heap.IsList l vs.toArray := ⟨_, (N _ hm).1, rfl, ne, rfl⟩
  exact tail_any hl.typeIs slot_list_getitem.lookup (wpAny_getItem_list hl h0 h1 (by simpa using hv) h) hs
end
theorem kind_at (k : Kd) : [Kd.nm .L, Kd.nm .R, Kd.nm .RLE, Kd.nm .LRE, Kd.nm .PDF, Kd.nm .B, Kd.nm .L][k.num.toNat]? = some k.nm := by cases k <;> rfl
local macro_rules | `(tactic| walk_at "call ref") => `(tactic| (k_here; (with_reducible show wpAny _ _ (call (Value.ref 207) _) _ _ _); k_dflt (refine' use_roa (place_spec _ _ _ _ _ _ _ ?hi ?hlen ?hsort) ?_ (hrel := by exact List.forall_mem_singleton.mpr (by k_mem)); (case hi => assumption); (case hlen => first | assumption | decide); (case hsort => assumption)); intro v' h' tk' F' N' hR'; obtain ⟨t', r', e', q1'⟩ := hR'; subst e'; (try dsimp only)))
theorem get_spec (w : World) (d : DT w) (k : Kd) (tb tc : Tok) :
  Spec w 800 296 [.ref d.D, .str (Str.ofString "bc") tb, .int (500 + k.num) tc] d.rel (fun v rel' => rel' = d.rel ∧ ∃ t, v = .str k.nm t) := by
  have hM := d.hM
  have hlo := d.lo
  have hs := d.hs
  have hsorted := starts_sorted
  unfold Spec
  k_fill
  intro p loose mean mg mb outer base g s R B X T hsz st N hret
  refine' enter_defB [(Str.ofString "code", .int (500 + k.num) tc), (Str.ofString "name", .str (Str.ofString "bc") tb), (Str.ofString "self", .ref d.D)] (K := hd.heap_1 w.params) B X T hsz st N ?k1 ?k2 ?k3 ?k4 ?k5 ?_ ?c1 ?c2 ?c3 ?c4
  case k1 => k_is
  case k2 => k_is
  case k3 => exact Nat.le_of_ble_eq_true rfl
  case k4 => exact BindsTo.of_eq rfl
  case k5 => exact locs rfl
  case c1 => exact rfl
  case c2 => exact rfl
  case c3 => exact rfl
  case c4 => decide
  intro L' h' tk0 F' N' B' X' T' l1
  try dsimp only [DT.rel] at N' l1
  try k_lt l1
  try dsimp only
  show wpAny _ _ _ _ _ _
  k_fold
  k_steps
  rename (0 ≤ _ ∧ _ ∧ _ ∧ _) => q
  rw [place_of k _ q.1 q.2.1 q.2.2.1 q.2.2.2]
  obtain ⟨tw, hv⟩ := StrsAre.get d.hw _ _ (kind_at k)
  refine my_item (v := .str k.nm tw) (by assumption) (by k_mem) (by cases k <;> decide) (by cases k <;> decide) hv ?_
  k_steps
  exact hret _ _ _ _ (Fr.keep (by assumption)) (lie_of (by assumption) fun _ h => h) ⟨rfl, _, rfl⟩
end
local macro_rules | `(tactic| walk_at "zz one") => `(tactic| skip)
local macro_rules | `(tactic| walk_at "call ref") => `(tactic| (k_here; (with_reducible show wpAny _ _ (call (Value.ref 296) _) _ _ _); k_dflt (refine' use_rfa (get_spec _ _ _ _ _) ?_ (hrel := by (dsimp only [DT.rel]; k_allIn))); intro h' tk' t' F' N'))
section
abbrev tx (k : Kd) : Int := 500 + k.num
abbrev tupO (l : List Value) : Obj := { cls := .type "tuple", data := .seq l.toArray }
theorem text_at {vs : List Value} {ks : List Kd} (hi : IntsAre vs (ks.map tx)) {i : Nat} {v : Value} (hv : vs.toArray[i]? = some v) : ∃ k t, v = .int (tx k) t ∧ ks[i]? = some k := by
  obtain ⟨c, t, e, hc⟩ := IntsAre.at hi i v (by simpa using hv)
  rw [List.getElem?_map] at hc
  cases hk : ks[i]? with
  | none => rw [hk] at hc; cases hc
  | some k => rw [hk] at hc; cases hc; exact ⟨k, t, e, rfl⟩
theorem nm_ne {k : Kd} (h : k ≠ .B) : ¬ k.nm = Str.ofString "B" := by cases k <;> first | exact absurd rfl h | decide
theorem num_nn (k : Kd) : 0 ≤ k.num := by cases k <;> decide
theorem at_mid {f s : List Kd} {i : Nat} {k : Kd} (h : (f ++ .B :: s)[i]? = some k) (hf : ∀ k ∈ f, k ≠ .B) (hs : ∀ k ∈ s, k ≠ .B) : (i = f.length ∧ k = .B) ∨ (i ≠ f.length ∧ k ≠ .B) := by
  rw [List.getElem?_append] at h
  split at h
  · exact .inr ⟨by omega, hf k (List.mem_of_getElem? h)⟩
  · cases hj : i - f.length with
    | zero => rw [hj] at h; left; exact ⟨by omega, by simpa using h.symm⟩
    | succ j => rw [hj] at h; right; exact ⟨by omega, hs k (List.mem_of_getElem? (by simpa using h))⟩
inductive PrJ (w : World) (d : DT w) (TX n : Nat) (vs : List Value) (f : List Kd) (fd i : Nat) (m : Str → Option Value) : List (Addr × Obj) → Prop
  | a (h : i ≤ f.length) (t1 : Tok) (hm : ∀ p ∈ [(Str.ofString "text", Value.ref TX), (Str.ofString "data", Value.ref d.D), (Str.ofString "found", Value.ref fd), (Str.ofString "begun", Value.int 0 t1), (Str.ofString "is_pair", Value.bool false)], m p.1 = some p.2) : PrJ w d TX n vs f fd i m ((fd, listOf [].toArray 0) :: (TX, listOf vs.toArray n) :: d.rel)
  | b (h : f.length < i) (t1 : Tok) (T1 : Nat) (ta tb : Tok) (n1 : Nat) (hm : ∀ p ∈ [(Str.ofString "text", Value.ref TX), (Str.ofString "data", Value.ref d.D), (Str.ofString "found", Value.ref fd), (Str.ofString "begun", Value.int (f.length + 1) t1), (Str.ofString "is_pair", Value.bool false)], m p.1 = some p.2) (o1 : @LT.lt Nat _ fd T1) :
     PrJ w d TX n vs f fd i m ((fd, listOf [Value.ref T1].toArray n1) :: (T1, tupO [Value.int 0 ta, Value.int (f.length + 1) tb]) :: (TX, listOf vs.toArray n) :: d.rel)
inductive TextAt (ks : List Kd) (i : Nat) : Value → Prop
  | mk (k : Kd) (t : Tok) : ks[i]? = some k → TextAt ks i (.int (tx k) t)
theorem text_at' {vs : List Value} {ks : List Kd} (hi : IntsAre vs (ks.map tx)) {i : Nat} {v : Value} (hv : vs.toArray[i]? = some v) : TextAt ks i v := by
  obtain ⟨k, t, rfl, hk⟩ := text_at hi hv
  exact .mk k t hk
inductive ParaR (w : World) (d : DT w) (TX n : Nat) (vs : List Value) (f b : List Kd) : Value → List (Addr × Obj) → Prop
  | mk (fd T1 T2 nf : Nat) (ta tb tc td : Tok) : (∀ a ∈ [TX, d.D, d.dD, d.M, d.RM, d.dR, d.St, d.Vl], @LT.lt Nat _ a fd) → @LT.lt Nat _ fd T1 → @LT.lt Nat _ T1 T2 →
     ParaR w d TX n vs f b (.ref fd) ((fd, listOf [Value.ref T1, Value.ref T2].toArray nf) :: (T1, tupO [Value.int 0 ta, Value.int (f.length + 1) tb]) :: (T2, tupO [Value.int (f.length + 1) tc, Value.int ((f ++ .B :: b).length : Nat) td]) :: (TX, listOf vs.toArray n) :: d.rel)
theorem para_spec (w : World) (d : DT w) (TX n : Nat) (vs : List Value) (f b : List Kd) (hf : ∀ k ∈ f, k ≠ .B) (hs : ∀ k ∈ b, k ≠ .B) (hs0 : b ≠ []) (hi : IntsAre vs ((f ++ .B :: b).map tx)) (hlen : (f ++ .B :: b).length ≤ 1000) :
  Spec w 700 37 [.ref TX, .ref d.D] ((TX, listOf vs.toArray n) :: d.rel)
   (ParaR w d TX n vs f b) := by
  have hvl : vs.length = (f ++ .B :: b).length := by have := hi.length; rwa [List.length_map] at this
  have hsp : 0 < b.length := List.length_pos_iff.mpr hs0
  unfold Spec
  k_fill
  intro p loose mean mg mb outer base g s R B X T hsz st N hret
  refine' enter_defB [(Str.ofString "data", .ref d.D), (Str.ofString "text", .ref TX)] (K := hd.heap_1 w.params) B X T hsz st N ?k1 ?k2 ?k3 ?k4 ?k5 ?_ ?c1 ?c2 ?c3 ?c4
  case k1 => k_is
  case k2 => k_is
  case k3 => exact Nat.le_of_ble_eq_true rfl
  case k4 => exact BindsTo.of_eq rfl
  case k5 => exact locs rfl
  case c1 => exact rfl
  case c2 => exact rfl
  case c3 => exact rfl
  case c4 => decide
  intro L' h' tk0 F' N' B' X' T' l1
  try dsimp only [DT.rel] at N' l1
  try k_lt l1
  try dsimp only
  show wpAny _ _ _ _ _ _
  k_fold
  k_steps
  rename_i fd _ _ _ _ _ _ _ _ _ _ _ _ _ _ _ _ _ _ _ _ _ _ _ _
  have hfd : ∀ a ∈ [TX, d.D, d.dD, d.M, d.RM, d.dR, d.St, d.Vl], @LT.lt Nat _ a fd := by
    simp only [List.forall_mem_cons, List.not_mem_nil, false_implies, implies_true, and_true]; omega
  refine for_enum (m := _) (adr := [fd]) (J := PrJ w d TX n vs f fd)
    (by rfl) (by assumption) (by assumption) (by assumption) (by assumption) (by assumption) (by assumption) (by assumption) (by assumption) (by assumption) (by assumption) ?_ ?_ (by rfl) (by rfl) (by rfl) ?_ ?_ ?_ ?_
  · exact List.forall_mem_singleton.mpr (by omega)
  · assumption
  · intro i h' m' news' F N hJ
    revert N
    induction hJ with
    | a h t1 hm => exact fun N => News.isList N (.tail _ (.head _))
    | b h t1 T1 ta tb n1 hm o1 => exact fun N => News.isList N (.tail _ (.tail _ (.head _)))
  · exact .a (Nat.zero_le _) _ (by kst_all)
  · intro i v t m₁ news₁ h tk own hv hJ off1 off2 F₁ N₁
    have hkA := text_at' hi hv
    clear hv
    induction hkA with
    | mk k tk' hk =>
    have hk0 := num_nn k
    revert off2 N₁
    induction hJ with
    | a hi' t1 hm =>
      intro off2 N₁
      rw [← kst_self hm] at F₁
      simp only [List.cons_append, List.nil_append] at N₁
      dsimp only [tx] at F₁
      rcases at_mid hk hf hs with ⟨hif, hkb⟩ | ⟨hne', hkB⟩
      · clear hk
        subst hif hkb
        have heq : Kd.nm .B = Str.ofString "B" := rfl
        show wpAny _ _ _ _ _ _
        k_fold
        k_steps
        rename_i T1 _ _ _ _ _ _ _ _
        rename _ ∧ _ ∧ _ ∧ _ ∧ _ ∧ _ ∧ _ ∧ _ ∧ _ ∧ AllLt _ _ => l9
        refine' TurnEnd.next (by assumption) (by assumption) ?g1 ?g2 ?g3 (.b (by omega) _ T1 _ _ _ (by kst_all) l9.1)
        case g1 => dsimp only [DT.rel]; k_allIn
        case g2 => intro p hp; k_ownIn
        case g3 => exact ownOff_sub (ownOff_cons' l9.2.2.2.2.2.2.2.2.2 off2) (by simp)
      · have hne := nm_ne hkB
        show wpAny _ _ _ _ _ _
        k_fold
        k_steps
        refine' TurnEnd.next (by assumption) (by assumption) ?g1 ?g2 ?g3 (.a (by omega) _ (by kst_all))
        case g1 => dsimp only [DT.rel]; k_allIn
        case g2 => intro p hp; k_ownIn
        case g3 => assumption
    | b hi' t1 T1 ta tb n1 hm o1 =>
      intro off2 N₁
      rw [← kst_self hm] at F₁
      simp only [List.cons_append, List.nil_append] at N₁
      dsimp only [tx] at F₁
      rcases at_mid hk hf hs with ⟨hif, hkb⟩ | ⟨hne', hkB⟩
      · exact absurd hi' (by omega)
      · have hne := nm_ne hkB
        show wpAny _ _ _ _ _ _
        k_fold
        k_steps
        refine' TurnEnd.next (by assumption) (by assumption) ?g1 ?g2 ?g3 (.b (by omega) _ T1 _ _ _ (by kst_all) o1)
        case g1 => dsimp only [DT.rel]; k_allIn
        case g2 => intro p hp; k_ownIn
        case g3 => assumption
  · intro h' tk m' news' F₁ N₁ hJ
    revert N₁
    induction hJ with
    | a hi' =>
      rw [List.size_toArray, hvl, List.length_append, List.length_cons] at hi'
      omega
    | b hi' t1 T1 ta tb n1 hm o1 =>
      intro N₁
      rw [← kst_self hm] at F₁
      have hlen2 : (f ++ .B :: b).length = f.length + (b.length + 1) := by rw [List.length_append, List.length_cons]
      k_steps
      rename_i T2 _ _ _ _ _
      rename _ ∧ _ ∧ _ ∧ _ ∧ _ ∧ _ ∧ _ ∧ _ ∧ _ ∧ _ => l9
      refine' hret _ _ _ _ (Fr.keep (by assumption)) (lie_of (by assumption) ?g1) (.mk fd T1 T2 _ _ _ _ _ hfd o1 l9.2.1)
      case g1 => dsimp only [DT.rel]; k_allIn
end
section
inductive KindsR (w : World) (d : DT w) (CX n : Nat) (vs : List Value) (ks : List Kd) : Value → List (Addr × Obj) → Prop
  | mk (K : Nat) (ws : List Value) : (∀ a ∈ [CX, d.D, d.dD, d.M, d.RM, d.dR, d.St, d.Vl], @Ne Nat a K) → StrsAre ws (ks.map Kd.nm) → KindsR w d CX n vs ks (.ref K) ((K, listOf ws.toArray ws.length) :: (CX, listOf vs.toArray n) :: d.rel)
theorem kinds_spec (w : World) (d : DT w) (CX n : Nat) (vs : List Value) (ks : List Kd) (hi : IntsAre vs (ks.map tx)) (hlen : ks.length ≤ 1000) :
  Spec w 700 30 [.ref CX, .ref d.D] ((CX, listOf vs.toArray n) :: d.rel)
   (KindsR w d CX n vs ks) := by
  have hvl : vs.length = ks.length := by have := hi.length; rwa [List.length_map] at this
  unfold Spec
  k_fill
  intro p loose mean mg mb outer base g s R B X T hsz st N hret
  refine' enter_defC (K := hd.heap_1 w.params) B X T hsz st N ?k1 ?k2 ?k3 ?k4 ?k5 ?k6 ?_ ?c1 ?c2 ?c3
  case k1 => k_is
  case k2 => k_is
  case k3 => exact Nat.le_of_ble_eq_true rfl
  case k4 => exact BindsTo.of_eq rfl
  case k5 => exact rfl
  case k6 => decide +kernel
  case c1 => exact rfl
  case c2 => exact rfl
  case c3 => exact rfl
  intro L' h' tk0 cells' F' N' Y' B' X' T' l1
  try dsimp only [DT.rel] at N' l1
  k_lt l1
  k_cells Y'
  simp only [List.cons_append, List.nil_append] at N'
  try dsimp only
  show wpAny _ _ _ _ _ _
  k_fold
  k_steps
  refine name_head2 (by assumption) fun ca co e1 e2 => ?_
  subst e2
  refine Halt.mk ?_
  refine LCg.CompSrc.ledger (by rfl) (by assumption) (by assumption) (by k_mem) (by rw [List.size_toArray, sizeLine_eq]; omega) fun g' => comp_rest (J := fun i ys news => CpJ ((L' + 1, co) :: (CX, listOf vs.toArray n) :: d.rel) (StrsAre ys ((ks.take i).map Kd.nm)) news) ?_ ?_ ?_
  · exact .mk (by simpa using StrsAre.nil)
  · intro i v ys news I oI C oC D m₂ h tk E' hi' hv hJ hC hx F N off ne
    induction hJ with
    | mk hys =>
    obtain ⟨k, tk', rfl, hk⟩ := text_at hi hv
    dsimp only [tx] at hx
    dsimp only [DT.rel] at N
    k_fold
    k_steps
    refine LCg.CompEnd.intro (by assumption) (by assumption) ((L' + 1, co) :: (CX, listOf vs.toArray n) :: d.rel) ?_ off (.inr ⟨_, by k_mem, rfl, _, rfl⟩) (.mk ?_)
    · dsimp only [DT.rel]; k_allIn
    · rw [List.take_add_one, hk, List.map_append]
      exact StrsAre.append' hys (.cons _ _ .nil)
  · intro ys news hJ D h tk F N off
    induction hJ with
    | mk hys =>
    rw [List.size_toArray, hvl, List.take_length] at hys
    dsimp only [DT.rel] at N
    k_steps
    refine hret _ _ _ _ (Fr.keep (by assumption)) (lie_of (by assumption) ?_) (.mk D ys ?_ hys)
    · dsimp only [DT.rel]; k_allIn
    · obtain ⟨_, b1, b2, b3, b4, b5, b6, b7, b8, _⟩ := off
      simp only [List.forall_mem_cons, List.not_mem_nil, false_implies, implies_true, and_true]
      exact ⟨b1, b2, b3, b4, b5, b6, b7, b8⟩
end
section
theorem kind_at' {ws : List Value} {ks : List Kd} (hi : StrsAre ws (ks.map Kd.nm)) {i : Nat} {v : Value} (hv : ws.toArray[i]? = some v) : ∃ k t, v = .str (Kd.nm k) t ∧ ks[i]? = some k := by
  have hl : i < ws.length := by
    have := (List.getElem?_eq_some_iff.mp (by simpa using hv)).1
    exact this
  have hlen : ws.length = (ks.map Kd.nm).length := hi.length
  have hl2 : i < ks.length := by rw [List.length_map] at hlen; omega
  obtain ⟨t, e⟩ := StrsAre.get hi i (ks[i]).nm (by rw [List.getElem?_map, List.getElem?_eq_getElem hl2]; rfl)
  have hv' : ws[i]? = some v := by simpa using hv
  rw [e] at hv'
  cases hv'
  exact ⟨ks[i], t, rfl, List.getElem?_eq_getElem hl2⟩
theorem iso_spec (w : World) (K n : Nat) (ws : List Value) (ks : List Kd) (hi : StrsAre ws (ks.map Kd.nm)) (hlen : ks.length ≤ 1000) :
  Spec w 800 44 [.ref K] [(K, listOf ws.toArray n)]
   (fun v rel' => rel' = [(K, listOf ws.toArray n)] ∧ ∃ P, v = .ref P) := by
  unfold Spec
  k_fill
  intro p loose mean mg mb outer base g s R B X T hsz st N hret
  refine' enter_defB [(Str.ofString "kinds", .ref K)] (K := hd.heap_1 w.params) B X T hsz st N ?k1 ?k2 ?k3 ?k4 ?k5 ?_ ?c1 ?c2 ?c3 ?c4
  case k1 => k_is
  case k2 => k_is
  case k3 => exact Nat.le_of_ble_eq_true rfl
  case k4 => exact BindsTo.of_eq rfl
  case k5 => exact locs rfl
  case c1 => exact rfl
  case c2 => exact rfl
  case c3 => exact rfl
  case c4 => decide
  intro L' h' tk0 F' N' B' X' T' l1
  try dsimp only [DT.rel] at N' l1
  try k_lt l1
  try dsimp only
  show wpAny _ _ _ _ _ _
  k_fold
  k_steps
  refine for_enum (m := _) (adr := []) (J := fun i m news => (∃ P, ∀ p ∈ [(Str.ofString "kinds", Value.ref K), (Str.ofString "found", Value.ref P)], m p.1 = some p.2) ∧ news = [(K, listOf ws.toArray n)])
    (by rfl) (by assumption) (kst_newsOf (l' := [(K, listOf ws.toArray n)]) (by assumption) (by k_allIn)) (by assumption) (by assumption) (by assumption) (by assumption) (by assumption) (by assumption) (by assumption) (by assumption) (List.forall_mem_nil _) ?_ (by rfl) (by rfl) (by rfl) ?_ ?_ ?_ ?_
  · exact List.forall_mem_singleton.mpr (by assumption)
  · rintro i h' m' news' F N ⟨_, rfl⟩
    exact News.isList N (.head _)
  · exact ⟨⟨_, by kst_all⟩, rfl⟩
  · rintro i v t m₁ news₁ h tk own hv ⟨⟨P, hm⟩, rfl⟩ off1 off2 F₁ N₁
    obtain ⟨k, tk', rfl, hk⟩ := kind_at' hi hv
    rw [← kst_self hm] at F₁
    simp only [List.cons_append, List.nil_append] at N₁
    cases k <;> dsimp only [Kd.nm] at F₁
    all_goals
      show wpAny _ _ _ _ _ _
      k_fold
    all_goals k_steps
    all_goals
      show TurnEnd _ _ _ _ _ _ _ _ _
      refine' TurnEnd.next (by assumption) (by assumption) ?g1 ?g2 ?g3 ⟨⟨_, by kst_all⟩, rfl⟩
      case g1 => k_allIn
      case g2 => intro p hp; k_ownIn
      case g3 => assumption
  · rintro h' tk m' news' F₁ N₁ ⟨⟨P, hm⟩, rfl⟩
    rw [← kst_self hm] at F₁
    k_steps
    refine hret _ _ _ _ (Fr.keep (by assumption)) (lie_of (by assumption) ?_) ⟨rfl, P, rfl⟩
    k_allIn
end
section
noncomputable def fs : List Kd → Option Kd
  | [] => none
  | .L :: _ => some .L
  | .R :: _ => some .R
  | .B :: _ => none
  | .RLE :: r => fs r
  | .LRE :: r => fs r
  | .PDF :: r => fs r
local macro_rules | `(tactic| walk_at "subscriptTail") => `(tactic| (k_here; (with_reducible show wpAny _ _ (subscriptTail _ _ (Value.ref _) (Value.int _ _)) _ _ _); k_dflt (refine' my_item (by k_asm) (by k_mem) (by omega) (by omega) (by assumption) ?_ (by with_unfolding_all rfl)); k_whole))
theorem drop_at {ks : List Kd} {i : Nat} {k : Kd} (h : ks[i]? = some k) : ks.drop i = k :: ks.drop (i + 1) := by
  obtain ⟨h1, h2⟩ := List.getElem?_eq_some_iff.mp h
  rw [List.drop_eq_getElem_cons h1, h2]
theorem strong_spec (w : World) (K n : Nat) (Pv : Value) (ws : List Value) (ks : List Kd) (tb te : Tok) (hi : StrsAre ws (ks.map Kd.nm)) (hlen : ks.length ≤ 1000) :
  Spec w 800 51 [.ref K, .int 0 tb, .int (ks.length : Int) te, Pv] [(K, listOf ws.toArray n)]
   (fun v rel' => rel' = [(K, listOf ws.toArray n)] ∧ ((fs ks = none ∧ v = .none) ∨ ∃ k t, fs ks = some k ∧ v = .str k.nm t)) := by
  unfold Spec
  k_fill
  intro p loose mean mg mb outer base g s R B X T hsz st N hret
  refine' enter_defB [(Str.ofString "pairs", Pv), (Str.ofString "end", .int (ks.length : Int) te), (Str.ofString "begin", .int 0 tb), (Str.ofString "kinds", .ref K)] (K := hd.heap_1 w.params) B X T hsz st N ?k1 ?k2 ?k3 ?k4 ?k5 ?_ ?c1 ?c2 ?c3 ?c4
  case k1 => k_is
  case k2 => k_is
  case k3 => exact Nat.le_of_ble_eq_true rfl
  case k4 => exact BindsTo.of_eq rfl
  case k5 => exact locs rfl
  case c1 => exact rfl
  case c2 => exact rfl
  case c3 => exact rfl
  case c4 => decide
  intro L' h' tk0 F' N' B' X' T' l1
  try dsimp only [DT.rel] at N' l1
  try k_lt l1
  try dsimp only
  show wpAny _ _ _ _ _ _
  k_fold
  k_steps
  refine while_rule (h₀ := g) (m := _) (J := fun j m news => news = [(K, listOf ws.toArray n)] ∧ ∃ (i : Nat) (ta : Tok), i ≤ ks.length ∧ j = ks.length - i ∧ fs ks = fs (ks.drop i) ∧ (∀ p ∈ [(Str.ofString "kinds", Value.ref K), (Str.ofString "end", Value.int (ks.length : Int) te), (Str.ofString "at", Value.int (i : Int) ta)], m p.1 = some p.2)) ks.length (by assumption) (by assumption) ?_ ?_
  · exact ⟨rfl, 0, _, Nat.zero_le _, rfl, rfl, by kst_all⟩
  · rintro j m₁ news₁ h tk ⟨rfl, i, ta, h1, rfl, h2, hm⟩ F₁ N₁
    rw [← kst_self hm] at F₁
    by_cases hlt : i < ks.length
    · have hz : ((i : Int)).toNat = i := Int.toNat_natCast i
      obtain ⟨k, hk⟩ : ∃ k, ks[i]? = some k := ⟨ks[i], List.getElem?_eq_getElem hlt⟩
      rw [drop_at hk] at h2
      obtain ⟨t, hv⟩ := StrsAre.get hi i k.nm (by rw [List.getElem?_map, hk]; rfl)
      rw [← hz] at hv
      cases k <;> dsimp only [Kd.nm, fs] at hv h2
      all_goals (try k_fold)
      all_goals k_steps
      · exact hret _ _ _ _ (Fr.keep (by assumption)) (lie_of (by assumption) fun _ h => h) ⟨rfl, .inr ⟨_, _, h2, rfl⟩⟩
      · exact hret _ _ _ _ (Fr.keep (by assumption)) (lie_of (by assumption) fun _ h => h) ⟨rfl, .inr ⟨_, _, h2, rfl⟩⟩
      · exact WEnd.next (ks.length - (i + 1)) (by assumption) (by assumption) (fun _ h => h) (Nat.sub_lt_sub_left hlt (Nat.lt_succ_self i)) ⟨rfl, i + 1, _, by omega, rfl, h2, by kst_all⟩
      · exact WEnd.next (ks.length - (i + 1)) (by assumption) (by assumption) (fun _ h => h) (Nat.sub_lt_sub_left hlt (Nat.lt_succ_self i)) ⟨rfl, i + 1, _, by omega, rfl, h2, by kst_all⟩
      · exact WEnd.next (ks.length - (i + 1)) (by assumption) (by assumption) (fun _ h => h) (Nat.sub_lt_sub_left hlt (Nat.lt_succ_self i)) ⟨rfl, i + 1, _, by omega, rfl, h2, by kst_all⟩
      · exact hret _ _ _ _ (Fr.keep (by assumption)) (lie_of (by assumption) fun _ h => h) ⟨rfl, .inl ⟨h2, rfl⟩⟩
    · have hi' : i = ks.length := by omega
      subst hi'
      rw [List.drop_length] at h2
      (try k_fold)
      k_steps
      exact hret _ _ _ _ (Fr.keep (by assumption)) (lie_of (by assumption) fun _ h => h) ⟨rfl, .inl ⟨h2, rfl⟩⟩
end
section
theorem fs_LR : ∀ (ks : List Kd) (k : Kd), fs ks = some k → k = .L ∨ k = .R
  | [], _, h => by cases h
  | .L :: _, _, h => by cases h; exact .inl rfl
  | .R :: _, _, h => by cases h; exact .inr rfl
  | .B :: _, _, h => by cases h
  | .RLE :: r, k, h => fs_LR r k h
  | .LRE :: r, k, h => fs_LR r k h
  | .PDF :: r, k, h => fs_LR r k h
theorem strong3 {ks : List Kd} {v : Value} (h : (fs ks = none ∧ v = .none) ∨ ∃ k t, fs ks = some k ∧ v = .str k.nm t) :
    (fs ks = none ∧ v = .none) ∨ (∃ t, fs ks = some .L ∧ v = .str (Str.ofString "L") t) ∨ ∃ t, fs ks = some .R ∧ v = .str (Str.ofString "R") t := by
  rcases h with h | ⟨k, t, h1, h2⟩
  · exact .inl h
  · rcases fs_LR ks k h1 with rfl | rfl
    · exact .inr (.inl ⟨t, h1, h2⟩)
    · exact .inr (.inr ⟨t, h1, h2⟩)
local macro_rules | `(tactic| walk_at "call ref") => `(tactic| (k_here; (with_reducible show wpAny _ _ (call (Value.ref 44) _) _ _ _); k_dflt (refine' use_rfa (iso_spec _ _ _ _ _ ?hi ?hlen) ?_ (hrel := by exact List.forall_mem_singleton.mpr (by k_mem)); (case hi => assumption); (case hlen => assumption)); intro h' tk' P' F' N'))
local macro_rules | `(tactic| walk_at "call ref") => `(tactic| (k_here; (with_reducible show wpAny _ _ (call (Value.ref 51) _) _ _ _); k_dflt (refine' use_roa (strong_spec _ _ _ _ _ _ _ _ ?hi ?hlen) ?_ (hrel := by exact List.forall_mem_singleton.mpr (by k_mem)); (case hi => assumption); (case hlen => assumption)); intro v' h' tk' F' N' hR'; rcases strong3 hR' with ⟨hfs', e'⟩ | ⟨t', hfs', e'⟩ | ⟨t', hfs', e'⟩ <;> subst e' <;> (try dsimp only)))
inductive Wd where
  | auto | ltr | rtl
def Wd.nm : Wd → Str
  | .auto => Str.ofString "auto"
  | .ltr => Str.ofString "ltr"
  | .rtl => Str.ofString "rtl"
noncomputable def baseOf (ks : List Kd) : Wd → Int
  | .ltr => 0
  | .rtl => 1
  | .auto => match fs ks with
    | some .R => 1
    | _ => 0
theorem base_spec (w : World) (K n : Nat) (ws : List Value) (ks : List Kd) (wd : Wd) (tw : Tok) (hi : StrsAre ws (ks.map Kd.nm)) (hlen : ks.length ≤ 1000) :
  Spec w 700 58 [.ref K, .str wd.nm tw] [(K, listOf ws.toArray n)]
   (fun v rel' => rel' = [(K, listOf ws.toArray n)] ∧ ∃ t, v = .int (baseOf ks wd) t) := by
  have hwl : ws.length = ks.length := by have := hi.length; rwa [List.length_map] at this
  unfold Spec
  k_fill
  intro p loose mean mg mb outer base g s R B X T hsz st N hret
  refine' enter_defB [(Str.ofString "word", .str wd.nm tw), (Str.ofString "kinds", .ref K)] (K := hd.heap_1 w.params) B X T hsz st N ?k1 ?k2 ?k3 ?k4 ?k5 ?_ ?c1 ?c2 ?c3 ?c4
  case k1 => k_is
  case k2 => k_is
  case k3 => exact Nat.le_of_ble_eq_true rfl
  case k4 => exact BindsTo.of_eq rfl
  case k5 => exact locs rfl
  case c1 => exact rfl
  case c2 => exact rfl
  case c3 => exact rfl
  case c4 => decide
  intro L' h' tk0 F' N' B' X' T' l1
  try dsimp only [DT.rel] at N' l1
  try k_lt l1
  try dsimp only
  show wpAny _ _ _ _ _ _
  k_fold
  cases wd <;> dsimp only [Wd.nm, baseOf] at F' hret
  · k_steps
    all_goals
      rename fs ks = _ => h9
      exact hret _ _ _ _ (Fr.keep (by assumption)) (lie_of (by assumption) fun _ h => h) ⟨rfl, _, congrArg (fun x => Value.int x _) (by rw [h9] <;> rfl)⟩
  · k_steps
    exact hret _ _ _ _ (Fr.keep (by assumption)) (lie_of (by assumption) fun _ h => h) ⟨rfl, _, rfl⟩
  · k_steps
    exact hret _ _ _ _ (Fr.keep (by assumption)) (lie_of (by assumption) fun _ h => h) ⟨rfl, _, rfl⟩
end
local macro_rules | `(tactic| walk_at "zz two") => `(tactic| skip)
local macro_rules | `(tactic| walk_at "call ref") => `(tactic| (k_here; (with_reducible show wpAny _ _ (call (Value.ref 44) _) _ _ _); k_dflt (refine' use_rfa (iso_spec _ _ _ _ _ ?hi ?hlen) ?_ (hrel := by exact List.forall_mem_singleton.mpr (by k_mem)); (case hi => assumption); (case hlen => assumption)); intro h' tk' P' F' N'))
local macro_rules | `(tactic| walk_at "call ref") => `(tactic| (k_here; (with_reducible show wpAny _ _ (call (Value.ref 58) _) _ _ _); k_dflt (refine' use_rfa (base_spec _ _ _ _ _ _ _ ?hi ?hlen) ?_ (hrel := by exact List.forall_mem_singleton.mpr (by k_mem)); (case hi => assumption); (case hlen => assumption)); intro h' tk' t' F' N'))
section
/-! the plain law: levels and the count of what is too deep -/
structure St where
  init : List Int
  x : Int
  n : Int
def fr (right : Bool) (lv : Int) : Int := match right with
  | true => lv + 1 + lv.fmod 2
  | false => lv + 2 - lv.fmod 2
def emb (right : Bool) (s : St) : St := if fr right s.x ≤ 125 ∧ s.n = 0 then ⟨s.init ++ [s.x], fr right s.x, s.n⟩ else ⟨s.init, s.x, s.n + 1⟩
def pdf (s : St) : St := if 0 < s.n then ⟨s.init, s.x, s.n - 1⟩ else match s.init.getLast? with
  | some y => ⟨s.init.dropLast, y, s.n⟩
  | none => s
def stepS : Kd → St → St
  | .RLE, s => emb true s
  | .LRE, s => emb false s
  | .PDF, s => pdf s
  | _, s => s
def outS (b : Int) (k : Kd) (s : St) : Option Int × Str := match k with
  | .RLE => (none, Str.ofString "BN")
  | .LRE => (none, Str.ofString "BN")
  | .PDF => (none, Str.ofString "BN")
  | .B => (some b, Kd.nm .B)
  | .L => (some s.x, Kd.nm .L)
  | .R => (some s.x, Kd.nm .R)
def run (b : Int) (ks : List Kd) : St × List (Option Int × Str) := ks.foldl (fun p k => (stepS k p.1, p.2 ++ [outS b k (stepS k p.1)])) (⟨[], b, 0⟩, [])
theorem run_snoc (b : Int) (ks : List Kd) (k : Kd) : run b (ks ++ [k]) = (stepS k (run b ks).1, (run b ks).2 ++ [outS b k (stepS k (run b ks).1)]) := by
  unfold run
  rw [List.foldl_append]
  rfl
theorem run_take (b : Int) (ks : List Kd) (i : Nat) (k : Kd) (h : ks[i]? = some k) : run b (ks.take (i + 1)) = (stepS k (run b (ks.take i)).1, (run b (ks.take i)).2 ++ [outS b k (stepS k (run b (ks.take i)).1)]) := by
  rw [List.take_add_one, h]
  exact run_snoc b _ k
theorem run_len (b : Int) (ks : List Kd) : (run b ks).2.length = ks.length := by
  have : ∀ (ks : List Kd) (p : St × List (Option Int × Str)), (ks.foldl (fun p k => (stepS k p.1, p.2 ++ [outS b k (stepS k p.1)])) p).2.length = p.2.length + ks.length := by
    intro ks
    induction ks with
    | nil => intro p; rfl
    | cons k r ih => intro p; rw [List.foldl_cons, ih]; simp only [List.length_append, List.length_cons, List.length_nil]; omega
  have h := this ks (⟨[], b, 0⟩, [])
  simpa [run] using h
end
section
theorem further_spec (w : World) (S dS El a d : Nat) (t1 t2 t3 t4 t5 u1 u2 u3 td ti te tv tl : Tok) (lv n : Int) (init : List Value) (ne : Nat) (right : Bool)
  (o : dS < S ∧ dS < El ∧ S < El ∧ NE d El ∧ d < a ∧ NE a El ∧ NE d S ∧ NE a S ∧ NE d dS ∧ NE a dS ∧ init.length ≤ 1000) :
  Spec w 850 107 [.ref S, .bool right] [(S, instObj 145 dS), (dS, stkD w t1 t2 t3 t4 t5 (.int 125 td) (.ref El) (.int 0 ti) (.int n te) (.int 0 tv)), (El, listOf (init ++ [Value.ref a]).toArray ne), (a, instObj 75 d), (d, entD w u1 u2 u3 lv tl)]
   (fun v rel' => rel' = [(S, instObj 145 dS), (dS, stkD w t1 t2 t3 t4 t5 (.int 125 td) (.ref El) (.int 0 ti) (.int n te) (.int 0 tv)), (El, listOf (init ++ [Value.ref a]).toArray ne), (a, instObj 75 d), (d, entD w u1 u2 u3 lv tl)] ∧ ∃ t, v = .int (fr right lv) t) := by
  obtain ⟨o1, o2, o2', o3, o4, o5, o6, o7, o8, o9, hlen⟩ := o
  unfold Spec
  k_fill
  intro p loose mean mg mb outer base g s R B X T hsz st N hret
  refine' enter_defB [(Str.ofString "is_right", .bool right), (Str.ofString "self", .ref S)] (K := hd.heap_1 w.params) B X T hsz st N ?k1 ?k2 ?k3 ?k4 ?k5 ?_ ?c1 ?c2 ?c3 ?c4
  case k1 => k_is
  case k2 => k_is
  case k3 => exact Nat.le_of_ble_eq_true rfl
  case k4 => exact BindsTo.of_eq rfl
  case k5 => exact locs rfl
  case c1 => exact rfl
  case c2 => exact rfl
  case c3 => exact rfl
  case c4 => decide
  intro L' h' tk0 F' N' B' X' T' l1
  try dsimp only [DT.rel] at N' l1
  try k_lt l1
  try dsimp only
  show wpAny _ _ _ _ _ _
  k_fold
  cases right <;> dsimp only [fr] at hret
  all_goals k_steps
  all_goals exact hret _ _ _ _ (Fr.keep (by assumption)) (lie_of (by assumption) (by k_allIn)) ⟨rfl, _, rfl⟩
local macro_rules | `(tactic| walk_at "call ref") => `(tactic| (k_here; (with_reducible show wpAny _ _ (call (Value.ref 107) _) _ _ _); k_dflt (refine' use_rfa (further_spec _ _ _ _ _ _ _ _ _ _ _ _ _ _ _ _ _ _ _ _ _ _ _ _ ?o) ?_ (hrel := by k_allIn); (case o => refine ⟨?_, ?_, ?_, ?_, ?_, ?_, ?_, ?_, ?_, ?_, ?_⟩ <;> assumption)); intro h' tk' t' F' N'))
inductive EmbR (w : World) (S dS El a d : Nat) (t1 t2 t3 t4 t5 u1 u2 u3 td ti te tv tl : Tok) (lv n : Int) (init : List Value) (ne : Nat) (right : Bool) : Value → List (Addr × Obj) → Prop
  | push (c1 : fr right lv ≤ 125) (c2 : n = 0) (x d' : Nat) (k1 k2 k3 kt : Tok) (ne' : Nat) : S < d' → dS < d' → El < d' → a < d' → d < d' → d' < x → EmbR w S dS El a d t1 t2 t3 t4 t5 u1 u2 u3 td ti te tv tl lv n init ne right .none
     [(S, instObj 145 dS), (dS, stkD w t1 t2 t3 t4 t5 (.int 125 td) (.ref El) (.int 0 ti) (.int n te) (.int 0 tv)), (El, listOf (init ++ [Value.ref a] ++ [Value.ref x]).toArray ne'), (a, instObj 75 d), (d, entD w u1 u2 u3 lv tl), (x, instObj 75 d'), (d', entD w k1 k2 k3 (fr right lv) kt)]
  | skip (c : ¬ (fr right lv ≤ 125 ∧ n = 0)) (te' : Tok) : EmbR w S dS El a d t1 t2 t3 t4 t5 u1 u2 u3 td ti te tv tl lv n init ne right .none
     [(S, instObj 145 dS), (dS, stkD w t1 t2 t3 t4 t5 (.int 125 td) (.ref El) (.int 0 ti) (.int (n + 1) te') (.int 0 tv)), (El, listOf (init ++ [Value.ref a]).toArray ne), (a, instObj 75 d), (d, entD w u1 u2 u3 lv tl)]
theorem embed_spec (w : World) (S dS El a d : Nat) (t1 t2 t3 t4 t5 u1 u2 u3 td ti te tv tl : Tok) (lv n : Int) (init : List Value) (ne : Nat) (right : Bool)
  (o1 : dS < S) (o2 : dS < El) (o2' : S < El) (o3 : NE d El) (o4 : d < a) (o5 : NE a El) (o6 : NE d S) (o7 : NE a S) (o8 : NE d dS) (o9 : NE a dS) (hlen : init.length ≤ 1000) :
  Spec w 800 121 [.ref S, .bool right, .none] [(S, instObj 145 dS), (dS, stkD w t1 t2 t3 t4 t5 (.int 125 td) (.ref El) (.int 0 ti) (.int n te) (.int 0 tv)), (El, listOf (init ++ [Value.ref a]).toArray ne), (a, instObj 75 d), (d, entD w u1 u2 u3 lv tl)] (EmbR w S dS El a d t1 t2 t3 t4 t5 u1 u2 u3 td ti te tv tl lv n init ne right) := by
  unfold Spec
  k_fill
  intro p loose mean mg mb outer base g s R B X T hsz st N hret
  refine' enter_defB [(Str.ofString "override", .none), (Str.ofString "is_right", .bool right), (Str.ofString "self", .ref S)] (K := hd.heap_1 w.params) B X T hsz st N ?k1 ?k2 ?k3 ?k4 ?k5 ?_ ?c1 ?c2 ?c3 ?c4
  case k1 => k_is
  case k2 => k_is
  case k3 => exact Nat.le_of_ble_eq_true rfl
  case k4 => exact BindsTo.of_eq rfl
  case k5 => exact locs rfl
  case c1 => exact rfl
  case c2 => exact rfl
  case c3 => exact rfl
  case c4 => decide
  intro L' h' tk0 F' N' B' X' T' l1
  try dsimp only [DT.rel] at N' l1
  try k_lt l1
  try dsimp only
  show wpAny _ _ _ _ _ _
  k_fold
  k_steps
  · rename (_ ≤ (125 : Int)) => c1
    rename (n = 0) => c2
    rename_i x d' _ _ _ _ _ _ _ _ _ _ _ _ _ _ _ _ _ _ _ _
    refine' hret _ _ _ _ (Fr.keep (by assumption)) (lie_of (by assumption) ?g1) (.push c1 c2 x d' _ _ _ _ _ (by omega) (by omega) (by omega) (by omega) (by omega) (by omega))
    case g1 => k_allIn
  · rename (¬ n = 0) => c2
    refine' hret _ _ _ _ (Fr.keep (by assumption)) (lie_of (by assumption) ?g1) (.skip (fun h => c2 h.2) _)
    case g1 => k_allIn
  · rename (¬ _ ≤ (125 : Int)) => c1
    refine' hret _ _ _ _ (Fr.keep (by assumption)) (lie_of (by assumption) ?g1) (.skip (fun h => c1 h.1) _)
    case g1 => k_allIn
end
section
inductive PdfR (w : World) (S dS El a d : Nat) (t1 t2 t3 t4 t5 u1 u2 u3 td ti te tv tl : Tok) (lv n : Int) (init : List Value) (ne : Nat) : Value → List (Addr × Obj) → Prop
  | less (c : 0 < n) (te' : Tok) : PdfR w S dS El a d t1 t2 t3 t4 t5 u1 u2 u3 td ti te tv tl lv n init ne .none [(S, instObj 145 dS), (dS, stkD w t1 t2 t3 t4 t5 (.int 125 td) (.ref El) (.int 0 ti) (.int (n - 1) te') (.int 0 tv)), (El, listOf (init ++ [Value.ref a]).toArray ne), (a, instObj 75 d), (d, entD w u1 u2 u3 lv tl)]
  | pop (c : n = 0) (c2 : init ≠ []) (ne' : Nat) : PdfR w S dS El a d t1 t2 t3 t4 t5 u1 u2 u3 td ti te tv tl lv n init ne .none [(S, instObj 145 dS), (dS, stkD w t1 t2 t3 t4 t5 (.int 125 td) (.ref El) (.int 0 ti) (.int n te) (.int 0 tv)), (El, listOf init.toArray ne'), (a, instObj 75 d), (d, entD w u1 u2 u3 lv tl)]
  | same (c : n = 0) (c2 : init = []) : PdfR w S dS El a d t1 t2 t3 t4 t5 u1 u2 u3 td ti te tv tl lv n init ne .none [(S, instObj 145 dS), (dS, stkD w t1 t2 t3 t4 t5 (.int 125 td) (.ref El) (.int 0 ti) (.int n te) (.int 0 tv)), (El, listOf (init ++ [Value.ref a]).toArray ne), (a, instObj 75 d), (d, entD w u1 u2 u3 lv tl)]
theorem pdf_spec (w : World) (S dS El a d : Nat) (t1 t2 t3 t4 t5 u1 u2 u3 td ti te tv tl : Tok) (lv n : Int) (init : List Value) (ne : Nat)
  (o1 : dS < S) (o2 : dS < El) (o2' : S < El) (o3 : NE d El) (o4 : d < a) (o5 : NE a El) (o6 : NE d S) (o7 : NE a S) (o8 : NE d dS) (o9 : NE a dS) (hlen : init.length ≤ 1000) (hn : 0 ≤ n) :
  Spec w 800 142 [.ref S] [(S, instObj 145 dS), (dS, stkD w t1 t2 t3 t4 t5 (.int 125 td) (.ref El) (.int 0 ti) (.int n te) (.int 0 tv)), (El, listOf (init ++ [Value.ref a]).toArray ne), (a, instObj 75 d), (d, entD w u1 u2 u3 lv tl)]
   (PdfR w S dS El a d t1 t2 t3 t4 t5 u1 u2 u3 td ti te tv tl lv n init ne) := by
  have hll : (init ++ [Value.ref a]).length = init.length + 1 := by rw [List.length_append]; rfl
  unfold Spec
  k_fill
  intro p loose mean mg mb outer base g s R B X T hsz st N hret
  refine' enter_defB [(Str.ofString "self", .ref S)] (K := hd.heap_1 w.params) B X T hsz st N ?k1 ?k2 ?k3 ?k4 ?k5 ?_ ?c1 ?c2 ?c3 ?c4
  case k1 => k_is
  case k2 => k_is
  case k3 => exact Nat.le_of_ble_eq_true rfl
  case k4 => exact BindsTo.of_eq rfl
  case k5 => exact locs rfl
  case c1 => exact rfl
  case c2 => exact rfl
  case c3 => exact rfl
  case c4 => decide
  intro L' h' tk0 F' N' B' X' T' l1
  try dsimp only [DT.rel] at N' l1
  try k_lt l1
  try dsimp only
  show wpAny _ _ _ _ _ _
  k_fold
  k_steps
  · refine' hret _ _ _ _ (Fr.keep (by assumption)) (lie_of (by assumption) ?g1) (.less (by omega) _)
    case g1 => k_allIn
  · refine' hret _ _ _ _ (Fr.keep (by assumption)) (lie_of (by assumption) ?g1) (.pop (by omega) ?g2 _)
    case g1 => k_allIn
    case g2 =>
      intro he
      subst he
      simp only [List.length_nil] at *
      omega
  · refine' hret _ _ _ _ (Fr.keep (by assumption)) (lie_of (by assumption) ?g1) (.same (by omega) (List.length_eq_zero_iff.mp (by omega)))
    case g1 => k_allIn
end
section
inductive OptsAre : List Value → List (Option Int) → Prop
  | nil : OptsAre [] []
  | none {vs xs} : OptsAre vs xs → OptsAre (.none :: vs) (none :: xs)
  | some {vs xs} (i : Int) (t : Tok) : OptsAre vs xs → OptsAre (.int i t :: vs) (some i :: xs)
theorem OptsAre.snocN {vs xs} (h : OptsAre vs xs) : OptsAre (vs ++ [.none]) (xs ++ [Option.none]) := by
  induction h with
  | nil => exact .none .nil
  | none _ ih => exact .none ih
  | some i t _ ih => exact .some i t ih
theorem OptsAre.snocS {vs xs} (h : OptsAre vs xs) (i : Int) (t : Tok) : OptsAre (vs ++ [.int i t]) (xs ++ [Option.some i]) := by
  induction h with
  | nil => exact .some i t .nil
  | none _ ih => exact .none ih
  | some j u _ ih => exact .some j u ih
theorem OptsAre.length {vs xs} (h : OptsAre vs xs) : vs.length = xs.length := by
  induction h with
  | nil => rfl
  | none _ ih => simp [ih]
  | some j u _ ih => simp [ih]
/-- the entries below the last one, the newest first -/
inductive Ents (w : World) : List (Addr × Obj) → List Value → List Int → Prop
  | nil : Ents w [] [] []
  | snoc {ents evs init} (a d : Nat) (u1 u2 u3 tl : Tok) (lv : Int) : Ents w ents evs init → d < a → OwnOff ents [a, d] → Ents w ((a, instObj 75 d) :: (d, entD w u1 u2 u3 lv tl) :: ents) (evs ++ [.ref a]) (init ++ [lv])
theorem Ents.length {w ents evs init} (h : Ents w ents evs init) : evs.length = init.length := by
  induction h with
  | nil => rfl
  | snoc _ _ _ _ _ _ _ _ _ _ ih => simp [ih]
/-- the last of the entries -/
inductive EntL (w : World) : List (Addr × Obj) → List Value → List Int → Prop
  | mk {ents evs init} (a d : Nat) (u1 u2 u3 tl : Tok) (lv : Int) : Ents w ents evs init → d < a → OwnOff ents [a, d] → EntL w ((a, instObj 75 d) :: (d, entD w u1 u2 u3 lv tl) :: ents) (evs ++ [.ref a]) (init ++ [lv])
theorem Ents.last {w ents evs init} (h : Ents w ents evs init) (hn : evs ≠ []) : EntL w ents evs init := by
  cases h with
  | nil => exact absurd rfl hn
  | snoc a d u1 u2 u3 tl lv h h1 h2 => exact .mk a d u1 u2 u3 tl lv h h1 h2
/-- what lies between two turns of explicit -/
inductive ExJ (w : World) (K n : Nat) (ws : List Value) (Lv Cl S dS El : Nat) (b : Int) (tb : Tok) (p : St × List (Option Int × Str)) (i : Nat) (m : Str → Option Value) : List (Addr × Obj) → Prop
  | mk (hm : ∀ q ∈ [(Str.ofString "kinds", Value.ref K), (Str.ofString "base", Value.int b tb), (Str.ofString "stack", Value.ref S), (Str.ofString "levels", Value.ref Lv), (Str.ofString "classes", Value.ref Cl)], m q.1 = some q.2)
    (t1 t2 t3 t4 t5 td ti te tv u1 u2 u3 tl : Tok) (ne nl nc a d : Nat) (lvs cls evs : List Value) (ents : List (Addr × Obj)) :
    OptsAre lvs (p.2.map (·.1)) → StrsAre cls (p.2.map (·.2)) → Ents w ents evs p.1.init → 0 ≤ p.1.n → p.1.init.length ≤ i →
    d < a → OwnOff ents [a, d] → OwnOff ents [Lv, Cl, S, dS, El, K] → (NE a Lv ∧ NE a Cl ∧ NE a S ∧ NE a dS ∧ NE a El ∧ NE a K) → (NE d Lv ∧ NE d Cl ∧ NE d S ∧ NE d dS ∧ NE d El ∧ NE d K) →
    ExJ w K n ws Lv Cl S dS El b tb p i m ((Lv, listOf lvs.toArray nl) :: (Cl, listOf cls.toArray nc) :: (S, instObj 145 dS) :: (dS, stkD w t1 t2 t3 t4 t5 (.int 125 td) (.ref El) (.int 0 ti) (.int p.1.n te) (.int 0 tv)) :: (El, listOf (evs ++ [Value.ref a]).toArray ne) :: (a, instObj 75 d) :: (d, entD w u1 u2 u3 p.1.x tl) :: (K, listOf ws.toArray n) :: ents)
theorem pdf_pop (l : List Int) (y x : Int) : pdf ⟨l ++ [y], x, 0⟩ = ⟨l, y, 0⟩ := by unfold pdf; simp
theorem pdf_same (x : Int) : pdf ⟨[], x, 0⟩ = ⟨[], x, 0⟩ := by unfold pdf; simp
theorem app_sub {α : Type} {l M N : List α} (h : ∀ q ∈ l, q ∈ N) : ∀ q ∈ l, q ∈ M ++ N := fun q hq => List.mem_append_right _ (h q hq)
theorem ex_emb (r : Bool) {w : World} {A A₀ : Around} {E : Value → Shared → Prop} {Q : Value → Shared → Prop} {p : Program} {loose : List Str} {mean : ExcName → Option Value} {mg mb : Str → Option Value} {env : Env} {outer : List Env} {base h₀ : Heap} {L : Addr} {m : Str → Option Value} {s s0 : Shared}
    {Rr : Value → Shared → Prop} {Rb : Shared → Prop} {K n : Nat} {ws : List Value} {Lv Cl S dS El : Nat} {b : Int} {tb : Tok} {init : List Int} {x nn : Int} {out : List (Option Int × Str)} {i : Nat} {t1 t2 t3 t4 t5 td ti te tv u1 u2 u3 tl : Tok} {ne nl nc a d : Nat} {lvs cls evs : List Value} {ents own own2 : List (Addr × Obj)}
    (B : PyProof.Rows.Below A₀ base outer h₀) (F : Fr h₀ L s.heap m) (X : (hd.heap_1 w.params).In h₀) (N : News h₀ L s.heap ((Lv, listOf lvs.toArray nl) :: (Cl, listOf cls.toArray nc) :: (S, instObj 145 dS) :: (dS, stkD w t1 t2 t3 t4 t5 (.int 125 td) (.ref El) (.int 0 ti) (.int nn te) (.int 0 tv)) :: (El, listOf (evs ++ [Value.ref a]).toArray ne) :: (a, instObj 75 d) :: (d, entD w u1 u2 u3 x tl) :: (K, listOf ws.toArray n) :: own2)) (T : Top p loose mean mg mb h₀)
    (hA : A.frames = some (env :: outer)) (hf : env.frame = some L) (hke : env.scope.kind = .function) (hh : A.handled = none) (hg : A.guards = some []) (hd : A.depth ≤ 800) (hu : A.units ≤ 10 * 800)
    (hm : ∀ q ∈ [(Str.ofString "kinds", Value.ref K), (Str.ofString "base", Value.int b tb), (Str.ofString "stack", Value.ref S), (Str.ofString "levels", Value.ref Lv), (Str.ofString "classes", Value.ref Cl)], m q.1 = some q.2)
    (hL : OptsAre lvs ((out ++ [(none, Str.ofString "BN")] : List (Option Int × Str)).map (·.1))) (hC : StrsAre cls ((out ++ [(none, Str.ofString "BN")] : List (Option Int × Str)).map (·.2))) (hE : Ents w ents evs init) (hn : 0 ≤ nn) (hil : init.length ≤ i) (o4 : d < a) (oe1 : OwnOff ents [a, d]) (oe2 : OwnOff ents [Lv, Cl, S, dS, El, K])
    (za : NE a Lv ∧ NE a Cl ∧ NE a S ∧ NE a dS ∧ NE a El ∧ NE a K) (zd : NE d Lv ∧ NE d Cl ∧ NE d S ∧ NE d dS ∧ NE d El ∧ NE d K) (q1 : dS < S) (q2 : dS < El) (q3 : S < El)
    (mL : ∀ r ∈ ([(S, instObj 145 dS), (dS, stkD w t1 t2 t3 t4 t5 (.int 125 td) (.ref El) (.int 0 ti) (.int nn te) (.int 0 tv)), (El, listOf (evs ++ [Value.ref a]).toArray ne), (a, instObj 75 d), (d, entD w u1 u2 u3 x tl)] : List (Addr × Obj)), (Lv : Nat) ≠ r.1) (mC : ∀ r ∈ ([(S, instObj 145 dS), (dS, stkD w t1 t2 t3 t4 t5 (.int 125 td) (.ref El) (.int 0 ti) (.int nn te) (.int 0 tv)), (El, listOf (evs ++ [Value.ref a]).toArray ne), (a, instObj 75 d), (d, entD w u1 u2 u3 x tl)] : List (Addr × Obj)), (Cl : Nat) ≠ r.1) (mK : ∀ r ∈ ([(S, instObj 145 dS), (dS, stkD w t1 t2 t3 t4 t5 (.int 125 td) (.ref El) (.int 0 ti) (.int nn te) (.int 0 tv)), (El, listOf (evs ++ [Value.ref a]).toArray ne), (a, instObj 75 d), (d, entD w u1 u2 u3 x tl)] : List (Addr × Obj)), (K : Nat) ≠ r.1)
    (hel : evs.length ≤ 1000) (offA : OwnOff own2 [Lv, Cl, S, dS, El, K, a, d]) (sube : ∀ q ∈ ents, q ∈ own2) (subo : ∀ q ∈ own, q ∈ own2) (off2 : OwnOff own (Lv :: Cl :: S :: dS :: El :: a :: d :: K :: ents.map (·.1)))
    (k : ∀ h' tk', TurnEnd h₀ L own (ExJ w K n ws Lv Cl S dS El b tb (emb r ⟨init, x, nn⟩, out ++ [(none, Str.ofString "BN")]) (i + 1)) s0 Rr Rb .next { s0 with heap := h', toks := tk' } → Q .none { s with heap := h', toks := tk' }) :
    wpAny (model PySem.Challenge.rw_hb0008_01.row.prog w) A (call (.ref 121) [.ref S, .bool r, .none]) Q E s := by
  obtain ⟨a1, a2, a3, a4, a5, a6⟩ := za
  obtain ⟨d1, d2, d3, d4, d5, d6⟩ := zd
  refine' use_call B F X N T (embed_spec w S dS El a d t1 t2 t3 t4 t5 u1 u2 u3 td ti te tv tl x nn evs ne r q1 q2 q3 d5 o4 a5 d3 a3 d4 a4 hel) hA hf hke hh hg hd hu ?hrel ?_
  case hrel => k_allIn
  intro v' h' tk' rel' F' N' D' hR
  have mO : ∀ q ∈ own2, ∀ r ∈ ([(S, instObj 145 dS), (dS, stkD w t1 t2 t3 t4 t5 (.int 125 td) (.ref El) (.int 0 ti) (.int nn te) (.int 0 tv)), (El, listOf (evs ++ [Value.ref a]).toArray ne), (a, instObj 75 d), (d, entD w u1 u2 u3 x tl)] : List (Addr × Obj)), q.1 ≠ r.1 := fun q hq => by
    refine fa_cons (offA q hq _ (by k_memK)) (fa_cons (offA q hq _ (by k_memK)) (fa_cons (offA q hq _ (by k_memK)) (fa_cons (offA q hq _ (by k_memK)) (List.forall_mem_singleton.mpr (offA q hq _ (by k_memK))))))
  revert N' D'
  induction hR with
  | push c1 c2 x' d' k1 k2 k3 kt ne' p1 p2 p3 p4 p5 p6 =>
    intro N' D'
    have he : emb r ⟨init, x, nn⟩ = ⟨init ++ [x], fr r x, nn⟩ := if_pos ⟨c1, c2⟩
    have N2 := N' ((Lv, listOf lvs.toArray nl) :: (Cl, listOf cls.toArray nc) :: (S, instObj 145 dS) :: (dS, stkD w t1 t2 t3 t4 t5 (.int 125 td) (.ref El) (.int 0 ti) (.int nn te) (.int 0 tv)) :: (El, listOf (evs ++ [Value.ref a] ++ [Value.ref x']).toArray ne') :: (x', instObj 75 d') :: (d', entD w k1 k2 k3 (fr r x) kt) :: (K, listOf ws.toArray n) :: (a, instObj 75 d) :: (d, entD w u1 u2 u3 x tl) :: own2) (by
      refine fa_cons (.inr ⟨by k_memK, mL⟩) (fa_cons (.inr ⟨by k_memK, mC⟩) (fa_cons (.inl (by k_memK)) (fa_cons (.inl (by k_memK)) (fa_cons (.inl (by k_memK)) ?_))))
      refine fa_cons (.inl (by k_memK)) ?_
      refine fa_cons (.inl (by k_memK)) ?_
      refine fa_cons (.inr ⟨by k_memK, mK⟩) ?_
      refine fa_cons (.inl (by k_memK)) ?_
      refine fa_cons (.inl (by k_memK)) ?_
      exact fun q hq => .inr ⟨by (repeat apply List.mem_cons_of_mem); exact hq, mO q hq⟩)
    have DL := D' (Lv, listOf lvs.toArray nl) (by k_memK) mL
    have DC := D' (Cl, listOf cls.toArray nc) (by k_memK) mC
    have DK := D' (K, listOf ws.toArray n) (by k_memK) mK
    have DO : ∀ q ∈ own2, x' ≠ q.1 ∧ d' ≠ q.1 := fun q hq => ⟨D' q (by (repeat apply List.mem_cons_of_mem); exact hq) (mO q hq) (x', _) (by k_memK), D' q (by (repeat apply List.mem_cons_of_mem); exact hq) (mO q hq) (d', _) (by k_memK)⟩
    have X1 : NE x' Lv ∧ NE x' Cl ∧ NE x' S ∧ NE x' dS ∧ NE x' El ∧ NE x' K := ⟨DL (x', _) (by k_memK), DC (x', _) (by k_memK), NE.mk (by omega), NE.mk (by omega), NE.mk (by omega), DK (x', _) (by k_memK)⟩
    have X2 : NE d' Lv ∧ NE d' Cl ∧ NE d' S ∧ NE d' dS ∧ NE d' El ∧ NE d' K := ⟨DL (d', _) (by k_memK), DC (d', _) (by k_memK), NE.mk (by omega), NE.mk (by omega), NE.mk (by omega), DK (d', _) (by k_memK)⟩
    clear N' D' DL DC DK mL mC mK mO
    rw [he] at k
    refine k _ _ (TurnEnd.next F' N2 ?g1a ?g2a ?g3a (.mk hm t1 t2 t3 t4 t5 td ti te tv k1 k2 k3 kt ne' nl nc x' d' _ _ (evs ++ [Value.ref a]) ((a, instObj 75 d) :: (d, entD w u1 u2 u3 x tl) :: ents) hL hC (Ents.snoc a d u1 u2 u3 tl x hE o4 oe1) hn ?h3a p6 ?h4a ?h5a X1 X2))
    case g1a =>
      iterate 8 refine sub_cons (by k_memK) ?_
      refine sub_cons (by k_memK) (sub_cons (by k_memK) ?_)
      exact fun q hq => by (repeat apply List.mem_cons_of_mem); exact sube q hq
    case g2a => exact fun q hq => by (repeat apply List.mem_cons_of_mem); exact subo q hq
    case g3a =>
      have hx : OwnOff own (x' :: d' :: _) := ownOff_cons2 (fun q hq => DO q (subo q hq)) off2
      exact fun q hq => have o := hx q hq; fa_cons (o _ (by k_memK)) (fa_cons (o _ (by k_memK)) (fa_cons (o _ (by k_memK)) (fa_cons (o _ (by k_memK)) (fa_cons (o _ (by k_memK)) (fa_cons (o _ (by k_memK)) (fa_cons (o _ (by k_memK)) (fa_cons (o _ (by k_memK)) (fa_cons (o _ (by k_memK)) (fa_cons (o _ (by k_memK)) (fun c hc => o c (by (repeat apply List.mem_cons_of_mem); exact hc)))))))))))
    case h3a => dsimp only; rw [List.length_append]; simp only [List.length_cons, List.length_nil]; omega
    case h4a =>
      intro p hp b' hb'
      rcases List.mem_cons.mp hb' with rfl | hb'
      · rcases List.mem_cons.mp hp with rfl | hp
        · exact Nat.ne_of_lt (by omega)
        · rcases List.mem_cons.mp hp with rfl | hp
          · exact Nat.ne_of_lt (by omega)
          · exact Ne.symm (DO p (sube p hp)).1
      · rw [List.mem_singleton.mp hb']
        rcases List.mem_cons.mp hp with rfl | hp
        · exact Nat.ne_of_lt (by omega)
        · rcases List.mem_cons.mp hp with rfl | hp
          · exact Nat.ne_of_lt (by omega)
          · exact Ne.symm (DO p (sube p hp)).2
    case h5a => exact ownOff_two ⟨a1, a2, a3, a4, a5, a6⟩ ⟨d1, d2, d3, d4, d5, d6⟩ oe2
  | skip c te' =>
    intro N' D'
    have he : emb r ⟨init, x, nn⟩ = ⟨init, x, nn + 1⟩ := if_neg c
    have N2 := N' ((Lv, listOf lvs.toArray nl) :: (Cl, listOf cls.toArray nc) :: (S, instObj 145 dS) :: (dS, stkD w t1 t2 t3 t4 t5 (.int 125 td) (.ref El) (.int 0 ti) (.int (nn + 1) te') (.int 0 tv)) :: (El, listOf (evs ++ [Value.ref a]).toArray ne) :: (a, instObj 75 d) :: (d, entD w u1 u2 u3 x tl) :: (K, listOf ws.toArray n) :: own2) (by
      refine fa_cons (.inr ⟨by k_memK, mL⟩) (fa_cons (.inr ⟨by k_memK, mC⟩) (fa_cons (.inl (by k_memK)) (fa_cons (.inl (by k_memK)) (fa_cons (.inl (by k_memK)) ?_))))
      refine fa_cons (.inl (by k_memK)) ?_
      refine fa_cons (.inl (by k_memK)) ?_
      refine fa_cons (.inr ⟨by k_memK, mK⟩) ?_
      exact fun q hq => .inr ⟨by (repeat apply List.mem_cons_of_mem); exact hq, mO q hq⟩)
    clear N' D' mL mC mK mO
    rw [he] at k
    refine k _ _ (TurnEnd.next F' N2 ?g1b ?g2b ?g3b (.mk hm t1 t2 t3 t4 t5 td ti te' tv u1 u2 u3 tl ne nl nc a d _ _ evs ents hL hC hE ?h4b ?h3b o4 oe1 oe2 ⟨a1, a2, a3, a4, a5, a6⟩ ⟨d1, d2, d3, d4, d5, d6⟩))
    case g1b =>
      iterate 8 refine sub_cons (by k_memK) ?_
      exact fun q hq => by (repeat apply List.mem_cons_of_mem); exact sube q hq
    case g2b => exact fun q hq => by (repeat apply List.mem_cons_of_mem); exact subo q hq
    case g3b => exact off2
    case h3b => dsimp only; omega
    case h4b => dsimp only; omega
theorem ex_pdf {w : World} {A A₀ : Around} {E : Value → Shared → Prop} {Q : Value → Shared → Prop} {p : Program} {loose : List Str} {mean : ExcName → Option Value} {mg mb : Str → Option Value} {env : Env} {outer : List Env} {base h₀ : Heap} {L : Addr} {m : Str → Option Value} {s s0 : Shared}
    {Rr : Value → Shared → Prop} {Rb : Shared → Prop} {K n : Nat} {ws : List Value} {Lv Cl S dS El : Nat} {b : Int} {tb : Tok} {init : List Int} {x nn : Int} {out : List (Option Int × Str)} {i : Nat} {t1 t2 t3 t4 t5 td ti te tv u1 u2 u3 tl : Tok} {ne nl nc a d : Nat} {lvs cls evs : List Value} {ents own own2 : List (Addr × Obj)}
    (B : PyProof.Rows.Below A₀ base outer h₀) (F : Fr h₀ L s.heap m) (X : (hd.heap_1 w.params).In h₀) (N : News h₀ L s.heap ((Lv, listOf lvs.toArray nl) :: (Cl, listOf cls.toArray nc) :: (S, instObj 145 dS) :: (dS, stkD w t1 t2 t3 t4 t5 (.int 125 td) (.ref El) (.int 0 ti) (.int nn te) (.int 0 tv)) :: (El, listOf (evs ++ [Value.ref a]).toArray ne) :: (a, instObj 75 d) :: (d, entD w u1 u2 u3 x tl) :: (K, listOf ws.toArray n) :: own2)) (T : Top p loose mean mg mb h₀)
    (hA : A.frames = some (env :: outer)) (hf : env.frame = some L) (hke : env.scope.kind = .function) (hh : A.handled = none) (hg : A.guards = some []) (hd : A.depth ≤ 800) (hu : A.units ≤ 10 * 800)
    (hm : ∀ q ∈ [(Str.ofString "kinds", Value.ref K), (Str.ofString "base", Value.int b tb), (Str.ofString "stack", Value.ref S), (Str.ofString "levels", Value.ref Lv), (Str.ofString "classes", Value.ref Cl)], m q.1 = some q.2)
    (hL : OptsAre lvs ((out ++ [(none, Str.ofString "BN")] : List (Option Int × Str)).map (·.1))) (hC : StrsAre cls ((out ++ [(none, Str.ofString "BN")] : List (Option Int × Str)).map (·.2))) (hE : Ents w ents evs init) (hn : 0 ≤ nn) (hil : init.length ≤ i) (o4 : d < a) (oe1 : OwnOff ents [a, d]) (oe2 : OwnOff ents [Lv, Cl, S, dS, El, K])
    (za : NE a Lv ∧ NE a Cl ∧ NE a S ∧ NE a dS ∧ NE a El ∧ NE a K) (zd : NE d Lv ∧ NE d Cl ∧ NE d S ∧ NE d dS ∧ NE d El ∧ NE d K) (q1 : dS < S) (q2 : dS < El) (q3 : S < El)
    (mL : ∀ r ∈ ([(S, instObj 145 dS), (dS, stkD w t1 t2 t3 t4 t5 (.int 125 td) (.ref El) (.int 0 ti) (.int nn te) (.int 0 tv)), (El, listOf (evs ++ [Value.ref a]).toArray ne), (a, instObj 75 d), (d, entD w u1 u2 u3 x tl)] : List (Addr × Obj)), (Lv : Nat) ≠ r.1) (mC : ∀ r ∈ ([(S, instObj 145 dS), (dS, stkD w t1 t2 t3 t4 t5 (.int 125 td) (.ref El) (.int 0 ti) (.int nn te) (.int 0 tv)), (El, listOf (evs ++ [Value.ref a]).toArray ne), (a, instObj 75 d), (d, entD w u1 u2 u3 x tl)] : List (Addr × Obj)), (Cl : Nat) ≠ r.1) (mK : ∀ r ∈ ([(S, instObj 145 dS), (dS, stkD w t1 t2 t3 t4 t5 (.int 125 td) (.ref El) (.int 0 ti) (.int nn te) (.int 0 tv)), (El, listOf (evs ++ [Value.ref a]).toArray ne), (a, instObj 75 d), (d, entD w u1 u2 u3 x tl)] : List (Addr × Obj)), (K : Nat) ≠ r.1)
    (hel : evs.length ≤ 1000) (offA : OwnOff own2 [Lv, Cl, S, dS, El, K, a, d]) (sube : ∀ q ∈ ents, q ∈ own2) (subo : ∀ q ∈ own, q ∈ own2) (off2 : OwnOff own (Lv :: Cl :: S :: dS :: El :: a :: d :: K :: ents.map (·.1)))
    (k : ∀ h' tk', TurnEnd h₀ L own (ExJ w K n ws Lv Cl S dS El b tb (pdf ⟨init, x, nn⟩, out ++ [(none, Str.ofString "BN")]) (i + 1)) s0 Rr Rb .next { s0 with heap := h', toks := tk' } → Q .none { s with heap := h', toks := tk' }) :
    wpAny (model PySem.Challenge.rw_hb0008_01.row.prog w) A (call (.ref 142) [.ref S]) Q E s := by
  obtain ⟨a1, a2, a3, a4, a5, a6⟩ := za
  obtain ⟨d1, d2, d3, d4, d5, d6⟩ := zd
  refine' use_call B F X N T (pdf_spec w S dS El a d t1 t2 t3 t4 t5 u1 u2 u3 td ti te tv tl x nn evs ne q1 q2 q3 d5 o4 a5 d3 a3 d4 a4 hel hn) hA hf hke hh hg hd hu ?hrel ?_
  case hrel => k_allIn
  intro v' h' tk' rel' F' N' D' hR
  have mO : ∀ q ∈ own2, ∀ r ∈ ([(S, instObj 145 dS), (dS, stkD w t1 t2 t3 t4 t5 (.int 125 td) (.ref El) (.int 0 ti) (.int nn te) (.int 0 tv)), (El, listOf (evs ++ [Value.ref a]).toArray ne), (a, instObj 75 d), (d, entD w u1 u2 u3 x tl)] : List (Addr × Obj)), q.1 ≠ r.1 := fun q hq => by
    refine fa_cons (offA q hq _ (by k_memK)) (fa_cons (offA q hq _ (by k_memK)) (fa_cons (offA q hq _ (by k_memK)) (fa_cons (offA q hq _ (by k_memK)) (List.forall_mem_singleton.mpr (offA q hq _ (by k_memK))))))
  revert N' D'
  induction hR with
  | less c te' =>
    intro N' D'
    have he : pdf ⟨init, x, nn⟩ = ⟨init, x, nn - 1⟩ := if_pos c
    have N2 := N' ((Lv, listOf lvs.toArray nl) :: (Cl, listOf cls.toArray nc) :: (S, instObj 145 dS) :: (dS, stkD w t1 t2 t3 t4 t5 (.int 125 td) (.ref El) (.int 0 ti) (.int (nn - 1) te') (.int 0 tv)) :: (El, listOf (evs ++ [Value.ref a]).toArray ne) :: (a, instObj 75 d) :: (d, entD w u1 u2 u3 x tl) :: (K, listOf ws.toArray n) :: own2) (by
      refine fa_cons (.inr ⟨by k_memK, mL⟩) (fa_cons (.inr ⟨by k_memK, mC⟩) (fa_cons (.inl (by k_memK)) (fa_cons (.inl (by k_memK)) (fa_cons (.inl (by k_memK)) ?_))))
      refine fa_cons (.inl (by k_memK)) ?_
      refine fa_cons (.inl (by k_memK)) ?_
      refine fa_cons (.inr ⟨by k_memK, mK⟩) ?_
      exact fun q hq => .inr ⟨by (repeat apply List.mem_cons_of_mem); exact hq, mO q hq⟩)
    clear N' D' mL mC mK mO
    rw [he] at k
    refine k _ _ (TurnEnd.next F' N2 ?g1a ?g2a ?g3a (.mk hm t1 t2 t3 t4 t5 td ti te' tv u1 u2 u3 tl ne nl nc a d _ _ evs ents hL hC hE ?h4a ?h3a o4 oe1 oe2 ⟨a1, a2, a3, a4, a5, a6⟩ ⟨d1, d2, d3, d4, d5, d6⟩))
    case g1a =>
      iterate 8 refine sub_cons (by k_memK) ?_
      exact fun q hq => by (repeat apply List.mem_cons_of_mem); exact sube q hq
    case g2a => exact fun q hq => by (repeat apply List.mem_cons_of_mem); exact subo q hq
    case g3a => exact off2
    case h3a => dsimp only; omega
    case h4a => dsimp only; omega
  | pop c c2 ne' =>
    intro N' D'
    have hEL := hE.last c2
    clear hE c2
    induction hEL with
    | @mk ents2 evs2 init2 a2' d2' w1 w2 w3 tl2 y hE2 o42 oe12 =>
    have he : pdf ⟨init2 ++ [y], x, nn⟩ = ⟨init2, y, nn⟩ := by
      subst c
      exact pdf_pop _ _ _
    have N2 := N' ((Lv, listOf lvs.toArray nl) :: (Cl, listOf cls.toArray nc) :: (S, instObj 145 dS) :: (dS, stkD w t1 t2 t3 t4 t5 (.int 125 td) (.ref El) (.int 0 ti) (.int nn te) (.int 0 tv)) :: (El, listOf (evs2 ++ [Value.ref a2']).toArray ne') :: (K, listOf ws.toArray n) :: own2) (by
      refine fa_cons (.inr ⟨by k_memK, mL⟩) (fa_cons (.inr ⟨by k_memK, mC⟩) (fa_cons (.inl (by k_memK)) (fa_cons (.inl (by k_memK)) (fa_cons (.inl (by k_memK)) ?_))))
      refine fa_cons (.inr ⟨by k_memK, mK⟩) ?_
      exact fun q hq => .inr ⟨by (repeat apply List.mem_cons_of_mem); exact hq, mO q hq⟩)
    clear N' D' mL mC mK mO
    rw [he] at k
    refine k _ _ (TurnEnd.next F' N2 ?g1b ?g2b ?g3b (.mk hm t1 t2 t3 t4 t5 td ti te tv w1 w2 w3 tl2 ne' nl nc a2' d2' _ _ evs2 ents2 hL hC hE2 hn ?h3b o42 oe12 ?h5b ?h6b ?h7b))
    case g1b =>
      iterate 5 refine sub_cons (by k_memK) ?_
      refine sub_cons (by (repeat apply List.mem_cons_of_mem); exact sube _ (.head _)) (sub_cons (by (repeat apply List.mem_cons_of_mem); exact sube _ (.tail _ (.head _))) (sub_cons (by k_memK) ?_))
      exact fun q hq => by (repeat apply List.mem_cons_of_mem); exact sube q (.tail _ (.tail _ hq))
    case g2b => exact fun q hq => by (repeat apply List.mem_cons_of_mem); exact subo q hq
    case g3b =>
      exact fun q hq => have o := off2 q hq; fa_cons (o _ (by k_memK)) (fa_cons (o _ (by k_memK)) (fa_cons (o _ (by k_memK)) (fa_cons (o _ (by k_memK)) (fa_cons (o _ (by k_memK)) (fa_cons (o _ (by k_memK)) (fa_cons (o _ (by k_memK)) (fa_cons (o _ (by k_memK)) (fun c hc => o c (by (repeat apply List.mem_cons_of_mem); exact hc)))))))))
    case h3b => rw [List.length_append] at hil; dsimp only; omega
    case h5b => exact fun p hp => oe2 p (.tail _ (.tail _ hp))
    case h6b => exact ⟨NE.mk (oe2 _ (.head _) _ (by k_memK)), NE.mk (oe2 _ (.head _) _ (by k_memK)), NE.mk (oe2 _ (.head _) _ (by k_memK)), NE.mk (oe2 _ (.head _) _ (by k_memK)), NE.mk (oe2 _ (.head _) _ (by k_memK)), NE.mk (oe2 _ (.head _) _ (by k_memK))⟩
    case h7b => exact ⟨NE.mk (oe2 _ (.tail _ (.head _)) _ (by k_memK)), NE.mk (oe2 _ (.tail _ (.head _)) _ (by k_memK)), NE.mk (oe2 _ (.tail _ (.head _)) _ (by k_memK)), NE.mk (oe2 _ (.tail _ (.head _)) _ (by k_memK)), NE.mk (oe2 _ (.tail _ (.head _)) _ (by k_memK)), NE.mk (oe2 _ (.tail _ (.head _)) _ (by k_memK))⟩
  | same c c2 =>
    intro N' D'
    have he : pdf ⟨init, x, nn⟩ = ⟨init, x, nn⟩ := by
      have hi0 : init = [] := by
        have := hE.length
        rw [c2] at this
        exact List.length_eq_zero_iff.mp this.symm
      rw [c, hi0]
      exact pdf_same _
    have N2 := N' ((Lv, listOf lvs.toArray nl) :: (Cl, listOf cls.toArray nc) :: (S, instObj 145 dS) :: (dS, stkD w t1 t2 t3 t4 t5 (.int 125 td) (.ref El) (.int 0 ti) (.int nn te) (.int 0 tv)) :: (El, listOf (evs ++ [Value.ref a]).toArray ne) :: (a, instObj 75 d) :: (d, entD w u1 u2 u3 x tl) :: (K, listOf ws.toArray n) :: own2) (by
      refine fa_cons (.inr ⟨by k_memK, mL⟩) (fa_cons (.inr ⟨by k_memK, mC⟩) (fa_cons (.inl (by k_memK)) (fa_cons (.inl (by k_memK)) (fa_cons (.inl (by k_memK)) ?_))))
      refine fa_cons (.inl (by k_memK)) ?_
      refine fa_cons (.inl (by k_memK)) ?_
      refine fa_cons (.inr ⟨by k_memK, mK⟩) ?_
      exact fun q hq => .inr ⟨by (repeat apply List.mem_cons_of_mem); exact hq, mO q hq⟩)
    clear N' D' mL mC mK mO
    rw [he] at k
    refine k _ _ (TurnEnd.next F' N2 ?g1c ?g2c ?g3c (.mk hm t1 t2 t3 t4 t5 td ti te tv u1 u2 u3 tl ne nl nc a d _ _ evs ents hL hC hE hn ?h3c o4 oe1 oe2 ⟨a1, a2, a3, a4, a5, a6⟩ ⟨d1, d2, d3, d4, d5, d6⟩))
    case g1c =>
      iterate 8 refine sub_cons (by k_memK) ?_
      exact fun q hq => by (repeat apply List.mem_cons_of_mem); exact sube q hq
    case g2c => exact fun q hq => by (repeat apply List.mem_cons_of_mem); exact subo q hq
    case g3c => exact off2
    case h3c => dsimp only; omega
inductive ExpR (w : World) (K n : Nat) (ws : List Value) (ks : List Kd) (b : Int) : Value → List (Addr × Obj) → Prop
  | mk (T Lv Cl nl nc : Nat) (lvs cls : List Value) : K < Lv → Lv < Cl → Cl < T → OptsAre lvs ((run b ks).2.map (·.1)) → StrsAre cls ((run b ks).2.map (·.2)) →
     ExpR w K n ws ks b (.ref T) [(T, tupO [.ref Lv, .ref Cl]), (Lv, listOf lvs.toArray nl), (Cl, listOf cls.toArray nc), (K, listOf ws.toArray n)]
theorem explicit_spec (w : World) (K n : Nat) (ws : List Value) (ks : List Kd) (b : Int) (tb td : Tok) (args : List Value) (hi : StrsAre ws (ks.map Kd.nm)) (hlen : ks.length ≤ 900)
  (hb : ∀ s fd oc od osl, (hd.heap_1 w.params).lookup 157 = some ⟨oc, od, .func fd, osl⟩ → (hd.heap_1 w.params).In s.heap → BindsTo s fd ⟨args, []⟩ [(Str.ofString "kinds", Value.ref K), (Str.ofString "base", Value.int b tb), (Str.ofString "depth", Value.int 125 td)]) :
  Spec w 700 157 args [(K, listOf ws.toArray n)] (ExpR w K n ws ks b) := by
  have hlen' : ks.length ≤ 1000 := by omega
  unfold Spec
  k_fill
  intro p loose mean mg mb outer base g s R B X T hsz st N hret
  refine' enter_defB [(Str.ofString "depth", Value.int 125 td), (Str.ofString "base", Value.int b tb), (Str.ofString "kinds", Value.ref K)] (K := hd.heap_1 w.params) B X T hsz st N ?k1 ?k2 ?k3 ?k4 ?k5 ?_ ?c1 ?c2 ?c3 ?c4
  case k1 => k_is
  case k2 => k_is
  case k3 => exact Nat.le_of_ble_eq_true rfl
  case k4 => exact hb _ _ _ _ _ (by k_is) (X.keeps st)
  case k5 => exact locs rfl
  case c1 => exact rfl
  case c2 => exact rfl
  case c3 => exact rfl
  case c4 => decide
  intro L' h' tk0 F' N' B' X' T' l1
  k_lt l1
  try dsimp only
  show wpAny _ _ _ _ _ _
  k_fold
  k_steps
  rename_i S dS _ _ _ _ _ _ _ _ _ _ _ _ _ a0 d0 _ _ _ _ _ _ _ _ _ _ _ _ _ _ _ _ _ El _ _ _ _ _ _ _ _ _ _ _ _ _ _ _ _ _ _ Lv _ _ _ _ Cl _ _ _ _ _ _ _ _ _ _ _ _ _ _ _ _ _ _ _ _
  rename (∀ p : Addr × Obj, p ∈ _ → @LT.lt Nat _ p.1 _) => l0x
  refine with_sub (by assumption) (by assumption) (ExJ w K n ws Lv Cl S dS El b tb (run b (ks.take 0)) 0) ?hJ0 fun l' hJ0 N0 sub0 => ?_
  case hJ0 =>
    refine' ⟨_, .mk (by kst_all) _ _ _ _ _ _ _ _ _ _ _ _ _ _ _ _ a0 d0 [] [] [] [] .nil .nil .nil (Int.le_refl _) (Nat.le_refl _) (by omega) ownOff_nil ownOff_nil ⟨NE.mk (by omega), NE.mk (by omega), NE.mk (by omega), NE.mk (by omega), NE.mk (by omega), NE.mk (by omega)⟩ ⟨NE.mk (by omega), NE.mk (by omega), NE.mk (by omega), NE.mk (by omega), NE.mk (by omega), NE.mk (by omega)⟩, ?mem⟩
    case mem => k_allIn
  refine for_enum (m := _) (adr := [Lv, Cl, S, dS, El, K]) (J := fun i => ExJ w K n ws Lv Cl S dS El b tb (run b (ks.take i)) i)
    (by rfl) (by assumption) N0 (by assumption) (by assumption) (by assumption) (by assumption) (by assumption) (by assumption) (by assumption) (by assumption) ?_ ?_ (by rfl) (by rfl) (by rfl) ?_ hJ0 ?_ ?_
  · exact fa_cons (l0x (Lv, _) (by k_mem)) (fa_cons (l0x (Cl, _) (by k_mem)) (fa_cons (l0x (S, _) (by k_mem)) (fa_cons (l0x (dS, _) (by k_mem)) (fa_cons (l0x (El, _) (by k_mem)) (List.forall_mem_singleton.mpr (l0x (K, _) (by k_mem)))))))
  · exact fun q hq => l0x q (sub0 q hq)
  · intro i h' m' news' F N hJ
    revert N
    induction hJ
    intro N
    exact News.isList N (by k_mem)
  · clear l0x hJ0 N0 sub0
    intro i v t m₁ news₁ h tk own hv hJ off1 off2 F₁ N₁
    obtain ⟨k, tk', rfl, hk⟩ := kind_at' hi hv
    have hr := run_take b ks i k hk
    have q1 : @LT.lt Nat _ dS S := by clear hJ; omega
    have q2 : @LT.lt Nat _ dS El := by clear hJ; omega
    have q3 : @LT.lt Nat _ S El := by clear hJ; omega
    have hrl := run_len b (ks.take i)
    have htl : (ks.take i).length ≤ 900 := by clear hJ; rw [List.length_take]; omega
    have hil' : i < ks.length := (List.getElem?_eq_some_iff.mp hk).1
    dsimp only
    rw [hr]
    clear hr hk hv
    generalize run b (ks.take i) = p at hJ hrl ⊢
    obtain ⟨⟨init, x, nn⟩, out⟩ := p
    revert off2 N₁
    induction hJ with
    | mk hm t1 t2 t3 t4 t5 td ti te tv u1 u2 u3 tl ne nl nc a d lvs cls evs ents hL hC hE hn hil o4 oe1 oe2 za zd =>
    intro off2 N₁
    dsimp only at hL hC hE hn hil
    have a1 := za.1
    have a2 := za.2.1
    have a3 := za.2.2.1
    have a4 := za.2.2.2.1
    have a5 := za.2.2.2.2.1
    have a6 := za.2.2.2.2.2
    have d1 := zd.1
    have d2 := zd.2.1
    have d3 := zd.2.2.1
    have d4 := zd.2.2.2.1
    have d5 := zd.2.2.2.2.1
    have d6 := zd.2.2.2.2.2
    have hll : lvs.length ≤ 1000 := by have := hL.length; rw [List.length_map] at this; dsimp only at this hrl; omega
    have hcl : cls.length ≤ 1000 := by have := hC.length; rw [List.length_map] at this; dsimp only at this hrl; omega
    have hel : evs.length ≤ 1000 := by have := hE.length; omega
    clear hrl htl
    rw [← kst_self hm] at F₁
    simp only [List.cons_append] at N₁
    try dsimp only at N₁
    have offA : OwnOff (ents ++ own) [Lv, Cl, S, dS, El, K, a, d] := ownOff_join (ownOff_app oe2 off1) (ownOff_app oe1 (ownOff_sub (r' := [a, d]) off2 (by simp)))
    have sube : ∀ q ∈ ents, q ∈ ents ++ own := fun q hq => List.mem_append_left _ hq
    have subo : ∀ q ∈ own, q ∈ ents ++ own := fun q hq => List.mem_append_right _ hq
    generalize ents ++ own = own2 at N₁ offA sube subo
    have hk2 : (k = .L ∨ k = .R) ∨ k = .RLE ∨ k = .LRE ∨ k = .PDF ∨ k = .B := by cases k <;> simp
    rcases hk2 with hk2 | rfl | rfl | rfl | rfl
    · have b1 : [Str.ofString "RLE", Str.ofString "LRE", Str.ofString "RLO", Str.ofString "LRO", Str.ofString "PDF", Str.ofString "BN"].any (· == k.nm) = false := by rcases hk2 with rfl | rfl <;> decide
      have b2 : [Str.ofString "LRI", Str.ofString "RLI", Str.ofString "FSI"].any (· == k.nm) = false := by rcases hk2 with rfl | rfl <;> decide
      have e1 : ¬ k.nm = Str.ofString "B" := by rcases hk2 with rfl | rfl <;> decide
      have e2 : ¬ k.nm = Str.ofString "PDI" := by rcases hk2 with rfl | rfl <;> decide
      have hs : stepS k ⟨init, x, nn⟩ = ⟨init, x, nn⟩ := by rcases hk2 with rfl | rfl <;> rfl
      have ho : outS b k ⟨init, x, nn⟩ = (some x, k.nm) := by rcases hk2 with rfl | rfl <;> rfl
      rw [hs, ho]
      clear hs ho hk2
      generalize k.nm = nm at *
      try k_fold
      k_steps
      refine' TurnEnd.next (by assumption) (by assumption) ?g1a ?g2a ?g3a (.mk (by kst_all) t1 t2 t3 t4 t5 td ti te tv u1 u2 u3 tl ne _ _ a d _ _ evs ents ?h1a ?h2a hE hn ?h3a o4 oe1 oe2 za zd)
      case g1a =>
        iterate 8 refine sub_cons (by k_memK) ?_
        exact fun q hq => by (repeat apply List.mem_cons_of_mem); exact sube q hq
      case g2a => exact fun q hq => by (repeat apply List.mem_cons_of_mem); exact subo q hq
      case g3a => exact off2
      case h1a => rw [List.map_append]; exact hL.snocS _ _
      case h2a => rw [List.map_append]; exact StrsAre.append' hC (.cons _ _ .nil)
      case h3a => dsimp only; omega
    · dsimp only [Kd.nm, stepS, outS] at F₁ ⊢
      try k_fold
      k_steps
      refine Halt.mk ?_
      refine' ex_emb true ?Bb ?Fb ?Xb ?Nb ?Tb ?hAb ?hfb ?hkeb ?hhb ?hgb ?hdb ?hub ?hmb ?hLb ?hCb hE hn hil o4 oe1 oe2 za zd q1 q2 q3 ?mLb ?mCb ?mKb hel offA sube subo off2 ?kb
      case hAb => exact rfl
      case hfb => exact rfl
      case hkeb => exact rfl
      case Bb => k_asm
      case Fb => k_asm
      case Xb => k_asm
      case Nb => k_asm
      case Tb => k_asm
      case hhb => exact rfl
      case hgb => exact rfl
      case hdb => exact Nat.le_of_ble_eq_true rfl
      case hub => exact Nat.le_of_ble_eq_true rfl
      case hmb => kst_all
      case hLb => rw [List.map_append]; exact hL.snocN
      case hCb => rw [List.map_append]; exact StrsAre.append' hC (.cons _ _ .nil)
      case mLb => show ∀ r ∈ (_ : List (Addr × Obj)), ((Lv, listOf #[] 0) : Addr × Obj).1 ≠ r.1; k_all
      case mCb => show ∀ r ∈ (_ : List (Addr × Obj)), ((Cl, listOf #[] 0) : Addr × Obj).1 ≠ r.1; k_all
      case mKb => show ∀ r ∈ (_ : List (Addr × Obj)), ((K, listOf #[] 0) : Addr × Obj).1 ≠ r.1; k_all
      case kb =>
        intro h' tk' hE'
        k_steps
        exact hE'
    · dsimp only [Kd.nm, stepS, outS] at F₁ ⊢
      try k_fold
      k_steps
      refine Halt.mk ?_
      refine' ex_emb false ?Bc ?Fc ?Xc ?Nc ?Tc ?hAc ?hfc ?hkec ?hhc ?hgc ?hdc ?huc ?hmc ?hLc ?hCc hE hn hil o4 oe1 oe2 za zd q1 q2 q3 ?mLc ?mCc ?mKc hel offA sube subo off2 ?kc
      case hAc => exact rfl
      case hfc => exact rfl
      case hkec => exact rfl
      case Bc => k_asm
      case Fc => k_asm
      case Xc => k_asm
      case Nc => k_asm
      case Tc => k_asm
      case hhc => exact rfl
      case hgc => exact rfl
      case hdc => exact Nat.le_of_ble_eq_true rfl
      case huc => exact Nat.le_of_ble_eq_true rfl
      case hmc => kst_all
      case hLc => rw [List.map_append]; exact hL.snocN
      case hCc => rw [List.map_append]; exact StrsAre.append' hC (.cons _ _ .nil)
      case mLc => show ∀ r ∈ (_ : List (Addr × Obj)), ((Lv, listOf #[] 0) : Addr × Obj).1 ≠ r.1; k_all
      case mCc => show ∀ r ∈ (_ : List (Addr × Obj)), ((Cl, listOf #[] 0) : Addr × Obj).1 ≠ r.1; k_all
      case mKc => show ∀ r ∈ (_ : List (Addr × Obj)), ((K, listOf #[] 0) : Addr × Obj).1 ≠ r.1; k_all
      case kc =>
        intro h' tk' hE'
        k_steps
        exact hE'
    · dsimp only [Kd.nm, stepS, outS] at F₁ ⊢
      try k_fold
      k_steps
      refine Halt.mk ?_
      refine' ex_pdf ?Bd ?Fd ?Xd ?Nd ?Td ?hAd ?hfd ?hked ?hhd ?hgd ?hdd ?hud ?hmd ?hLd ?hCd hE hn hil o4 oe1 oe2 za zd q1 q2 q3 ?mLd ?mCd ?mKd hel offA sube subo off2 ?kd
      case hAd => exact rfl
      case hfd => exact rfl
      case hked => exact rfl
      case Bd => k_asm
      case Fd => k_asm
      case Xd => k_asm
      case Nd => k_asm
      case Td => k_asm
      case hhd => exact rfl
      case hgd => exact rfl
      case hdd => exact Nat.le_of_ble_eq_true rfl
      case hud => exact Nat.le_of_ble_eq_true rfl
      case hmd => kst_all
      case hLd => rw [List.map_append]; exact hL.snocN
      case hCd => rw [List.map_append]; exact StrsAre.append' hC (.cons _ _ .nil)
      case mLd => show ∀ r ∈ (_ : List (Addr × Obj)), ((Lv, listOf #[] 0) : Addr × Obj).1 ≠ r.1; k_all
      case mCd => show ∀ r ∈ (_ : List (Addr × Obj)), ((Cl, listOf #[] 0) : Addr × Obj).1 ≠ r.1; k_all
      case mKd => show ∀ r ∈ (_ : List (Addr × Obj)), ((K, listOf #[] 0) : Addr × Obj).1 ≠ r.1; k_all
      case kd =>
        intro h' tk' hE'
        k_steps
        exact hE'
    · dsimp only [Kd.nm, stepS, outS] at F₁ ⊢
      try k_fold
      k_steps
      refine' TurnEnd.next (by assumption) (by assumption) ?g1e ?g2e ?g3e (.mk (by kst_all) t1 t2 t3 t4 t5 td ti te tv u1 u2 u3 tl ne _ _ a d _ _ evs ents ?h1e ?h2e hE hn ?h3e o4 oe1 oe2 za zd)
      case g1e =>
        iterate 8 refine sub_cons (by k_memK) ?_
        exact fun q hq => by (repeat apply List.mem_cons_of_mem); exact sube q hq
      case g2e => exact fun q hq => by (repeat apply List.mem_cons_of_mem); exact subo q hq
      case g3e => exact off2
      case h1e => rw [List.map_append]; exact hL.snocS _ _
      case h2e => rw [List.map_append]; exact StrsAre.append' hC (.cons _ _ .nil)
      case h3e => dsimp only; omega
  · clear l0x hJ0 N0 sub0
    intro h' tk m' news' F₁ N₁ hJ
    have hsz' : ws.toArray.size = ks.length := by rw [List.size_toArray]; have := hi.length; rwa [List.length_map] at this
    rw [hsz', List.take_length] at hJ
    revert N₁
    induction hJ with
    | mk hm t1 t2 t3 t4 t5 td ti te tv u1 u2 u3 tl ne nl nc a d lvs cls evs ents hL hC hE hn hil o4 oe1 oe2 za zd =>
    intro N₁
    clear hE hn hil oe1 oe2 za zd
    rw [← kst_self hm] at F₁
    have N2 := kst_newsOf (l' := [(Lv, listOf lvs.toArray nl), (Cl, listOf cls.toArray nc), (K, listOf ws.toArray n)]) N₁ (by k_allIn)
    clear N₁
    k_steps
    rename_i Tp _ _ _ _
    refine' hret _ _ _ _ (Fr.keep (by assumption)) (lie_of (by assumption) ?g1z) (.mk Tp Lv Cl nl nc lvs cls (by omega) (by omega) (by omega) hL hC)
    case g1z => k_allIn
end
section
section
variable {prog : Program} {w : World} {A : Around} {E : Value → Shared → Prop} {s : Shared} {env : Env} {h₀ : Heap} {m : Str → Option Value} {news : List (Addr × Obj)}
theorem my_iter_list {L l : Addr} {items : Array Value} {Q : Value → Shared → Prop} (F : Fr h₀ L s.heap m) (N : News h₀ L s.heap news) (hl : s.heap.IsList l items)
    (h : ∀ (h' : Heap) (it : Nat), Fr h₀ L h' m → News h₀ L h' news → h'.IsListIter it l 0 → h'.IsList l items → l < it → L < it → (∀ p ∈ news, p.1 < it) → h₀.get? it = none → Q (.ref it) { s with heap := h' }) :
    wpAny (model prog w) A (pyIter (.ref l)) Q E s := by
  refine wpAny_pyIter_list hl ?_
  have up : ∀ b o, s.heap.get? b = some o → (s.heap.push { cls := .type "list_iterator", data := .fields #[.ref l, .int 0 0] }).get? b = some o := fun b o e => Heap.get?_push_of_some _ e
  obtain ⟨ol, hol, _⟩ := id hl
  refine h _ s.heap.objs.size (F.keeps up) (N.grown up) ⟨_, Heap.get?_push_size _ rfl, rfl, rfl⟩ (hl.push _) (Heap.lt_size hol) F.ns.lt (fun p hp => Heap.lt_size (N p hp).1) (next_is_new F)
theorem for_list {R : Result → Shared → Prop} {x : Str} {px : Pos} {body : List Stmt} {it l : Addr} {items : Array Value} (adr : List Addr)
    (J : Nat → (Str → Option Value) → List (Addr × Obj) → Prop)
    (hh : A.handled = none) (F : Fr h₀ env.locals s.heap m) (N : News h₀ env.locals s.heap news)
    (hit : s.heap.IsListIter it l 0) (hl : s.heap.IsList l items)
    (o2 : @LT.lt Nat _ l it) (o3 : @LT.lt Nat _ env.locals it) (n2 : h₀.get? it = none)
    (hadr : ∀ a ∈ adr, @LT.lt Nat _ a it) (hnews : ∀ p ∈ news, @LT.lt Nat _ p.1 it)
    (hx : env.kindOf x = some .local)
    (hp : (env.scope.kind == .class || (env.scope.kind == .module && env.locals != env.globals)) = false)
    (keepL : ∀ i h' m' news', Fr h₀ env.locals h' m' → News h₀ env.locals h' news' → J i m' news' → h'.IsList l items)
    (h0 : J 0 m news)
    (turn : ∀ i v m₁ news₁ h tk own, items[i]? = some v → J i m₁ news₁ → OwnOff own adr → OwnOff own (news₁.map (·.1)) → Fr h₀ env.locals h (fun y => if y = x then some v else m₁ y) → News h₀ env.locals h (news₁ ++ own) →
      wpAny (model prog w) A (execs body env) (TurnEnd h₀ env.locals own (J (i + 1)) { s with heap := h, toks := tk } (fun v s' => R (.ok (.ret v)) s') fun s' => R (.ok .next) s') (notedBy (model prog w) A env fun e s' => R (.error e) s') { s with heap := h, toks := tk })
    (done : ∀ h' tk m' news', Fr h₀ env.locals h' m' → News h₀ env.locals h' news' → J items.size m' news' → R (.ok .next) { s with heap := h', toks := tk }) :
    codeAny (model prog w) A (.forLoop (.Name x px) (.ref it) body [] env) R s := by
  have W := Walks.list (prog := prog) (w := w) hh it l (Nat.ne_of_lt o2) items
  have Li : env.locals ≠ it := Nat.ne_of_lt o3
  refine codeAny_forLoop
    (LpS s h₀ env.locals items.size (fun h' i => (h'.IsListIter it l i ∧ h'.IsList l items)) (fun a => a ≠ it) J) ?_ (items.size + 1)
    (.mk s.heap s.toks m news 0 ⟨hit, hl⟩ F N (fun p hp' => Nat.ne_of_lt (hnews p hp')) h0 (Nat.zero_le _))
  intro k s' hS
  induction hS with
  | mk H tk m' news' i hst F' N' hoff hJ hi =>
  have next : ∀ h₁ : Heap, (∀ b o, b ∉ [it] → H.get? b = some o → h₁.get? b = some o) → Fr h₀ env.locals h₁ m' ∧ News h₀ env.locals h₁ news' := fun h₁ hk =>
    ⟨⟨F'.ns.at' fun o x => hk _ o (by simp [Li]) x, fun b o x => hk b o (by
        intro hb
        rw [List.mem_singleton.mp hb, n2] at x; cases x) (F'.keep b o x), F'.above⟩,
      fun p hq => ⟨hk _ _ (by simp [hoff p hq]) (N' p hq).1, (N' p hq).2⟩⟩
  by_cases hlt : i < items.size
  · refine W.item i _ _ _ hlt hst fun v h₁ tk₁ hv hst₁ hk₁ => ?_
    obtain ⟨F₁, N₁⟩ := next h₁ hk₁
    refine wpAny_assign_Name (wpAny_storeName_local hx F₁.ns (fun h₅ hn₅ hs₅ => ?_) hp)
    replace hs₅ : Heap.SameBut env.locals h₁ h₅ := hs₅
    have F₅ := F₁.set hn₅ hs₅
    have N₅ : News h₀ env.locals h₅ news' := N₁.set hs₅
    obtain ⟨⟨oi, hoi, hoi'⟩, hl₁⟩ := hst₁
    have hi₅ : h₅.get? it = some oi := hs₅.extBut it oi (Ne.symm Li) hoi
    have ow : ∀ b : Addr, b ≠ it → ∀ p ∈ [(it, oi)], p.1 ≠ b := fun b hb p hp' => by rw [List.mem_singleton.mp hp']; exact Ne.symm hb
    refine wpAny_mono (turn i v m' news' h₅ _ [(it, oi)] hv hJ
      (fun p hp' b hb => ow b (Nat.ne_of_lt (hadr b hb)) p hp')
      (fun p hp' b hb => by
        obtain ⟨q, hq, rfl⟩ := List.mem_map.mp hb
        exact ow _ (hoff q hq) p hp') F₅ (fun p hp' => ?_)) (fun f s₃ h₆ => ?_) fun _ _ x => x
    · rcases List.mem_append.mp hp' with hp' | hp'
      · exact N₅ p hp'
      · rw [List.mem_singleton.mp hp']; exact ⟨hi₅, Ne.symm Li, n2⟩
    · have fin : ∀ tkx, TurnEnd h₀ env.locals [(it, oi)] (J (i + 1)) { s with heap := h₅, toks := tkx } (fun v s' => R (.ok (.ret v)) s') (fun s' => R (.ok .next) s') .next s₃ →
          ∃ k', k' < items.size + 1 - i ∧ LpS s h₀ env.locals items.size (fun h' i => (h'.IsListIter it l i ∧ h'.IsList l items)) (fun a => a ≠ it) J k' s₃ := by
        rintro tkx ⟨h₇, tk₇, m₇, news₇, rfl, F₇, N₇, hd₇, hJ₇⟩
        have g2 := (N₇ (it, oi) (List.mem_append_right _ (.head _))).1
        exact ⟨items.size + 1 - (i + 1), Nat.sub_lt_sub_left (Nat.lt_succ_of_lt hlt) (Nat.lt_succ_self i), .mk h₇ tk₇ m₇ news₇ (i + 1) ⟨⟨oi, g2, hoi'⟩, keepL (i + 1) h₇ m₇ news₇ F₇ (fun q hq => N₇ q (List.mem_append_left _ hq)) hJ₇⟩ F₇ (fun q hq => N₇ q (List.mem_append_left _ hq)) (fun q hq x => hd₇ (it, _) (.head _) q.1 (List.mem_map_of_mem hq) x.symm) hJ₇ hlt⟩
      cases f with
      | ret v => exact h₆
      | brk => exact h₆
      | cont => exact fin _ h₆
      | next => exact fin _ h₆
  · have hin : i = items.size := by omega
    subst hin
    refine W.done _ _ _ hst fun h₁ tk₁ hk₁ => wpAny_execs_nil ?_
    obtain ⟨F₁, N₁⟩ := next h₁ hk₁
    exact done h₁ tk₁ m' news' F₁ N₁ hJ
end
end
section
theorem name_head3 {P : Prop} {g h : Heap} {L a b c : Addr} {o1 o2 o3 : Obj} {r : List (Addr × Obj)} (_N : News g L h ((a, o1) :: (b, o2) :: (c, o3) :: r)) (k : ∀ a' b' c' : Nat, a' = a → b' = b → c' = c → P) : P := k a b c rfl rfl rfl
theorem ownOff_join3 {a : List (Addr × Obj)} {x1 x2 x3 : Addr} (h : OwnOff a [x1, x2, x3]) : OwnOff a [x1, x2, x3] := h
end
local macro_rules | `(tactic| walk_at "exec For Name Name cons nil") => `(tactic| (k_here; refine wpAny_For ?_ ?hs; (case hs => intro _; with_unfolding_all rfl)))
local macro_rules | `(tactic| walk_at "pyIter ref") => `(tactic| (k_here; k_dflt (refine' my_iter_list (by k_asm) (by k_asm) (by exact News.isList (by k_asm) (by k_mem)) ?_; k_whole); intro h' it' F' N' hit' hl' o2' o3' l1' n2'; (have l0' := l1'); (try k_lt l1')))
local macro_rules | `(tactic| walk_at "pyIter ref") => `(tactic| (k_here; refine wpAny_pyIter_enum (by assumption) ?_))
section
/-- a level as a value -/
inductive OptV : Value → Option Int → Prop
  | none : OptV .none none
  | some (i : Int) (t : Tok) : OptV (.int i t) (some i)
/-- the tuples that a list of outputs is made of, the newest first -/
inductive Tups : List (Addr × Obj) → List Value → List (Option Int × Str) → Prop
  | nil : Tups [] [] []
  | snoc {objs vals outs} (T : Nat) (v : Value) (o : Option Int) (x : Str) (t : Tok) : Tups objs vals outs → OptV v o → Tups ((T, tupO [v, .str x t]) :: objs) (vals ++ [.ref T]) (outs ++ [(o, x)])
theorem Tups.length {objs vals outs} (h : Tups objs vals outs) : vals.length = outs.length := by
  induction h with
  | nil => rfl
  | snoc _ _ _ _ _ _ _ ih => simp [ih]
inductive LvJ (K n : Nat) (ws : List Value) (Fd Sk : Nat) (b : Int) (tb : Tok) (p : St × List (Option Int × Str)) (i : Nat) (m : Str → Option Value) : List (Addr × Obj) → Prop
  | mk (td tx : Tok) (nf ns : Nat) (fv sv : List Value) (tobjs : List (Addr × Obj)) (hm : ∀ q ∈ [(Str.ofString "kinds", Value.ref K), (Str.ofString "base", Value.int b tb), (Str.ofString "found", Value.ref Fd), (Str.ofString "stack", Value.ref Sk), (Str.ofString "deep", Value.int p.1.n td)], m q.1 = some q.2) :
    IntsAre sv p.1.init → Tups tobjs fv p.2 → OwnOff tobjs [Fd, Sk, K] → 0 ≤ p.1.n → p.1.init.length ≤ i →
    LvJ K n ws Fd Sk b tb p i m ((Fd, listOf fv.toArray nf) :: (Sk, listOf (sv ++ [Value.int p.1.x tx]).toArray ns) :: (K, listOf ws.toArray n) :: tobjs)
theorem ints_snocI {vs : List Value} {ns : List Int} (h : IntsAre vs ns) (i : Int) (t : Tok) : IntsAre (vs ++ [Value.int i t]) (ns ++ [i]) := by
  induction h with
  | nil => exact .cons _ _ .nil
  | cons _ _ _ ih => exact .cons _ _ ih
theorem ints_snoc {vs : List Value} {ns : List Int} (h : IntsAre vs ns) : (vs = [] ∧ ns = []) ∨ ∃ vs' ns' y t, vs = vs' ++ [Value.int y t] ∧ ns = ns' ++ [y] ∧ IntsAre vs' ns' := by
  induction h with
  | nil => exact .inl ⟨rfl, rfl⟩
  | cons i t h ih =>
    rcases ih with ⟨rfl, rfl⟩ | ⟨vs', ns', y, u, rfl, rfl, h'⟩
    · exact .inr ⟨[], [], i, t, rfl, rfl, .nil⟩
    · exact .inr ⟨_, _, y, u, rfl, rfl, .cons i t h'⟩
theorem pdf_z {x nn : Int} (h : ¬ 0 < nn) (hn : 0 ≤ nn) : (⟨[], x, nn⟩ : St) = pdf ⟨[], x, nn⟩ := by
  have e : nn = 0 := by omega
  rw [e]; exact (pdf_same x).symm
theorem pdf_p {l : List Int} {y x nn : Int} (h : ¬ 0 < nn) (hn : 0 ≤ nn) : (⟨l, y, nn⟩ : St) = pdf ⟨l ++ [y], x, nn⟩ := by
  have e : nn = 0 := by omega
  rw [e]; exact (pdf_pop l y x).symm
theorem bit_one (x : Int) : Builtin.bitAnd x 1 = x.fmod 2 := kbt_maskF x 1
theorem fr_bit {x : Int} {b r c : Bool} (h : ((Builtin.bitAnd (x + 1) 1 == 1) != b) = c) (hb : b = r) : fr r x = cond c (x + 1 + 1) (x + 1) := by
  subst hb
  rw [bit_one, Int.fmod_eq_emod_of_nonneg _ (by decide)] at h
  have hx := Int.emod_two_eq x
  cases b
  · show x + 2 - x.fmod 2 = _
    rw [Int.fmod_eq_emod_of_nonneg _ (by decide)]
    rcases hx with hx | hx
    · have : (x + 1) % 2 = 1 := by omega
      rw [this] at h
      subst h
      show _ = x + 1 + 1
      omega
    · have : (x + 1) % 2 = 0 := by omega
      rw [this] at h
      subst h
      show _ = x + 1
      omega
  · show x + 1 + x.fmod 2 = _
    rw [Int.fmod_eq_emod_of_nonneg _ (by decide)]
    rcases hx with hx | hx
    · have : (x + 1) % 2 = 1 := by omega
      rw [this] at h
      subst h
      show _ = x + 1
      omega
    · have : (x + 1) % 2 = 0 := by omega
      rw [this] at h
      subst h
      show _ = x + 1 + 1
      omega
/-- between the two halves of a turn -/
inductive LvM (h₀ : Heap) (L K n : Nat) (ws : List Value) (Fd Sk : Nat) (b : Int) (tb : Tok) (nm : Str) (tk0 : Tok) (fv : List Value) (nf : Nat) (own2 : List (Addr × Obj)) (st : St) (i : Nat) (s0 : Shared) : Shared → Prop
  | mk (h' : Heap) (tk : Nat) (td tx : Tok) (ns : Nat) (sv : List Value) (m : Str → Option Value) : Fr h₀ L h' m → News h₀ L h' ((Fd, listOf fv.toArray nf) :: (Sk, listOf (sv ++ [Value.int st.x tx]).toArray ns) :: (K, listOf ws.toArray n) :: own2) →
    (∀ q ∈ [(Str.ofString "kinds", Value.ref K), (Str.ofString "base", Value.int b tb), (Str.ofString "found", Value.ref Fd), (Str.ofString "stack", Value.ref Sk), (Str.ofString "deep", Value.int st.n td), (Str.ofString "kind", Value.str nm tk0)], m q.1 = some q.2) → IntsAre sv st.init → 0 ≤ st.n → st.init.length ≤ i + 1 → LvM h₀ L K n ws Fd Sk b tb nm tk0 fv nf own2 st i s0 { s0 with heap := h', toks := tk }
theorem lvm {h₀ h' : Heap} {tk L K n : Nat} {ws : List Value} {Fd Sk : Nat} {b : Int} {tb : Tok} {nm : Str} {tk0 td tx : Tok} {fv sv : List Value} {nf ns : Nat} {own2 nw : List (Addr × Obj)} {st st' : St} {i : Nat} {s0 : Shared} {m : Str → Option Value} (e : st = st')
    (F : Fr h₀ L h' m) (N : News h₀ L h' nw) (hin : ∀ q ∈ ((Fd, listOf fv.toArray nf) :: (Sk, listOf (sv ++ [Value.int st.x tx]).toArray ns) :: (K, listOf ws.toArray n) :: own2), q ∈ nw)
    (hm : ∀ q ∈ [(Str.ofString "kinds", Value.ref K), (Str.ofString "base", Value.int b tb), (Str.ofString "found", Value.ref Fd), (Str.ofString "stack", Value.ref Sk), (Str.ofString "deep", Value.int st.n td), (Str.ofString "kind", Value.str nm tk0)], m q.1 = some q.2) (hS : IntsAre sv st.init) (hn : 0 ≤ st.n) (hil : st.init.length ≤ i + 1) : LvM h₀ L K n ws Fd Sk b tb nm tk0 fv nf own2 st' i s0 { s0 with heap := h', toks := tk } :=
  e ▸ .mk h' tk td tx ns sv m F (fun q hq => N q (hin q hq)) hm hS hn hil
theorem lv_end {h₀ h' : Heap} {L : Addr} {own own2 tobjs : List (Addr × Obj)} {Rr : Value → Shared → Prop} {Rb : Shared → Prop} {s0 : Shared} {m' : Str → Option Value} {tk : Nat}
    {K n : Nat} {ws : List Value} {Fd Sk : Nat} {b : Int} {tb : Tok} {st : St} {out : List (Option Int × Str)} {i : Nat} {td tx t : Tok} {nf ns : Nat} {fv sv : List Value} {T : Nat} {v : Value} {o : Option Int} {x : Str} {od os ok : Obj}
    {nw : List (Addr × Obj)} (F : Fr h₀ L h' m') (N : News h₀ L h' nw) (hin : ∀ q ∈ ((T, tupO [v, .str x t]) :: (Fd, listOf (fv ++ [Value.ref T]).toArray nf) :: (Sk, listOf (sv ++ [Value.int st.x tx]).toArray ns) :: (K, listOf ws.toArray n) :: own2), q ∈ nw)
    (hm : ∀ q ∈ [(Str.ofString "kinds", Value.ref K), (Str.ofString "base", Value.int b tb), (Str.ofString "found", Value.ref Fd), (Str.ofString "stack", Value.ref Sk), (Str.ofString "deep", Value.int st.n td)], m' q.1 = some q.2)
    (hS : IntsAre sv st.init) (hT : Tups tobjs fv out) (hv : OptV v o) (l : Fd < T ∧ Sk < T ∧ K < T ∧ AllLt T own2) (oT : OwnOff tobjs [Fd, Sk, K]) (off2 : OwnOff own (((Fd, od) :: (Sk, os) :: (K, ok) :: tobjs).map (·.1)))
    (sube : ∀ q ∈ tobjs, q ∈ own2) (subo : ∀ q ∈ own, q ∈ own2) (hn : 0 ≤ st.n) (hil : st.init.length ≤ i + 1) :
    TurnEnd h₀ L own (LvJ K n ws Fd Sk b tb (st, out ++ [(o, x)]) (i + 1)) s0 Rr Rb .next { s0 with heap := h', toks := tk } := by
  obtain ⟨m1, m2, m3, m4⟩ := l
  refine TurnEnd.next F (fun q hq => N q (hin q hq)) ?g1 ?g2 ?g3 (.mk td tx nf ns (fv ++ [Value.ref T]) sv ((T, tupO [v, .str x t]) :: tobjs) hm hS (Tups.snoc T _ _ _ _ hT hv) ?h1 hn hil)
  case g1 =>
    iterate 4 refine sub_cons (by k_memK) ?_
    exact fun q hq => by (repeat apply List.mem_cons_of_mem); exact sube q hq
  case g2 => exact fun q hq => by (repeat apply List.mem_cons_of_mem); exact subo q hq
  case g3 =>
    have hx := ownOff_cons (fun q hq => allLt_mem m4 q (subo q hq)) off2
    exact fun q hq => have o := hx q hq; fa_cons (o _ (by k_memK)) (fa_cons (o _ (by k_memK)) (fa_cons (o _ (by k_memK)) (fa_cons (o _ (by k_memK)) (fun c hc => o c (by (repeat apply List.mem_cons_of_mem); exact hc)))))
  case h1 =>
    intro p hp
    rcases List.mem_cons.mp hp with rfl | hp
    · exact fa_cons (Nat.ne_of_gt m1) (fa_cons (Nat.ne_of_gt m2) (List.forall_mem_singleton.mpr (Nat.ne_of_gt m3)))
    · exact oT p hp
inductive LevR (K n : Nat) (ws : List Value) (ks : List Kd) (b : Int) : Value → List (Addr × Obj) → Prop
  | mk (Fd nf : Nat) (fv : List Value) (tobjs : List (Addr × Obj)) : K < Fd → Tups tobjs fv (run b ks).2 → OwnOff tobjs [Fd, K] → LevR K n ws ks b (.ref Fd) ((Fd, listOf fv.toArray nf) :: (K, listOf ws.toArray n) :: tobjs)
theorem my_eq_dec {prog : Program} {w : World} {A : Around} {E : Value → Shared → Prop} {s : Shared} {x y : Str} {t u : Tok} {r : Bool} {Q : Value → Shared → Prop} (h : (x == y) = r) (k : Q (.bool r) s) : wpAny (model prog w) A (compareOp .Eq (.str x t) (.str y u)) Q E s := eq_str (by rw [h]; exact k)
local macro_rules | `(tactic| walk_at "compareOp Eq str str") => `(tactic| (k_here; refine my_eq_dec (by assumption) ?_))
theorem levels_spec (w : World) (K n : Nat) (ws : List Value) (ks : List Kd) (b : Int) (tb : Tok) (hi : StrsAre ws (ks.map Kd.nm)) (hlen : ks.length ≤ 900) :
  Spec w 800 335 [.ref K, .int b tb] [(K, listOf ws.toArray n)] (LevR K n ws ks b) := by
  have hlen' : ks.length ≤ 1000 := by omega
  unfold Spec
  k_fill
  intro p loose mean mg mb outer base g s R B X T hsz st N hret
  refine' enter_defB [(Str.ofString "base", .int b tb), (Str.ofString "kinds", .ref K)] (K := hd.heap_1 w.params) B X T hsz st N ?k1 ?k2 ?k3 ?k4 ?k5 ?_ ?c1 ?c2 ?c3 ?c4
  case k1 => k_is
  case k2 => k_is
  case k3 => exact Nat.le_of_ble_eq_true rfl
  case k4 => exact BindsTo.of_eq rfl
  case k5 => exact locs rfl
  case c1 => exact rfl
  case c2 => exact rfl
  case c3 => exact rfl
  case c4 => decide
  intro L' h' tk0 F' N' B' X' T' l1
  try dsimp only [DT.rel] at N' l1
  try k_lt l1
  try dsimp only
  show wpAny _ _ _ _ _ _
  k_fold
  k_steps
  rename_i Fd _ _ Sk _ _ _ _ _ _ _ _ _ _ _ _ _ _ _ _ _ _ _ _ _ _ _ _
  refine with_sub (by assumption) (by assumption) (LvJ K n ws Fd Sk b tb (run b (ks.take 0)) 0) ?hJ0 fun l' hJ0 N0 sub0 => ?_
  case hJ0 =>
    refine' ⟨_, .mk _ _ _ _ [] [] [] (by kst_all) .nil .nil ownOff_nil (Int.le_refl _) (Nat.le_refl _), ?mem⟩
    case mem => k_allIn
  rename (∀ p : Addr × Obj, p ∈ _ → @LT.lt Nat _ p.1 _) => l0x
  refine for_list (m := _) (adr := [Fd, Sk, K]) (J := fun i => LvJ K n ws Fd Sk b tb (run b (ks.take i)) i)
    (by rfl) (by assumption) N0 (by assumption) (by assumption) (by assumption) (by assumption) (by assumption) ?_ ?_ (by rfl) (by rfl) ?_ hJ0 ?_ ?_
  · exact fa_cons (l0x (Fd, _) (by k_mem)) (fa_cons (l0x (Sk, _) (by k_mem)) (List.forall_mem_singleton.mpr (l0x (K, _) (by k_mem))))
  · exact fun q hq => l0x q (sub0 q hq)
  · intro i h' m' news' F N hJ
    revert N
    induction hJ
    intro N
    exact News.isList N (by k_mem)
  · clear l0x hJ0 N0 sub0
    intro i v m₁ news₁ h tk own hv hJ off1 off2 F₁ N₁
    obtain ⟨k, tk', rfl, hk⟩ := kind_at' hi hv
    have hr := run_take b ks i k hk
    have hrl := run_len b (ks.take i)
    have htl : (ks.take i).length ≤ 900 := by rw [List.length_take]; omega
    have hil' : i < ks.length := (List.getElem?_eq_some_iff.mp hk).1
    have q1 : @LT.lt Nat _ K Fd := by clear hJ; omega
    have q2 : @LT.lt Nat _ Fd Sk := by clear hJ; omega
    dsimp only
    rw [hr]
    clear hr hk hv
    generalize run b (ks.take i) = p at hJ hrl ⊢
    obtain ⟨⟨init, x, nn⟩, out⟩ := p
    revert off2 N₁
    induction hJ with
    | mk td tx nf ns fv sv tobjs hm hS hT oT hn hil =>
    intro off2 N₁
    dsimp only at hm hS hT hn hil
    have hfl : fv.length ≤ 1000 := by have := hT.length; dsimp only at this hrl; omega
    have hsl : sv.length ≤ 1000 := by have := hS.length; omega
    clear hrl htl
    rw [← kst_self hm] at F₁
    simp only [List.cons_append] at N₁
    try dsimp only at N₁
    have hsc : (sv ++ [Value.int x tx]).length = sv.length + 1 := by rw [List.length_append]; rfl
    have offA : OwnOff (tobjs ++ own) [Fd, Sk, K] := ownOff_app oT off1
    have sube : ∀ q ∈ tobjs, q ∈ tobjs ++ own := fun q hq => List.mem_append_left _ hq
    have subo : ∀ q ∈ own, q ∈ tobjs ++ own := fun q hq => List.mem_append_right _ hq
    generalize tobjs ++ own = own2 at N₁ offA sube subo
    try k_fold
    generalize hnm : k.nm = nm at F₁
    refine' wpAny_execs_cons (wpAny_mono (Q := fun fl s' => fl = Flow.next ∧ LvM g L' K n ws Fd Sk b tb nm tk' fv nf own2 (stepS k ⟨init, x, nn⟩) i s s') ?first ?second (fun _ _ x => x))
    case second =>
      intro fl s' hfl
      obtain ⟨rfl, hM⟩ := hfl
      generalize hst : stepS k ⟨init, x, nn⟩ = st at hM ⊢
      clear F₁ N₁ hm hS hn hil hsl hsc
      induction hM with
      | mk h2 tk2 td2 tx2 ns2 sv2 m2 F2 N2 hm2 hS2 hn2 hil2 =>
      rw [← kst_self hm2] at F2
      have hs2l : sv2.length ≤ 1000 := by have := hS2.length; omega
      have hsc2 : (sv2 ++ [Value.int st.x tx2]).length = sv2.length + 1 := by rw [List.length_append]; rfl
      dsimp only
      have hk3 : (k = .L ∨ k = .R) ∨ k = .B ∨ (k = .RLE ∨ k = .LRE ∨ k = .PDF) := by cases k <;> simp
      rcases hk3 with hk3 | rfl | hk3
      · have b2 : [Str.ofString "RLE", Str.ofString "LRE", Str.ofString "PDF"].any (· == nm) = false := by rcases hk3 with rfl | rfl <;> subst hnm <;> decide
        have e1 : ¬ nm = Str.ofString "B" := by rcases hk3 with rfl | rfl <;> subst hnm <;> decide
        have ho : outS b k st = (some st.x, nm) := by rcases hk3 with rfl | rfl <;> subst hnm <;> rfl
        rw [ho]
        clear hk3 hnm ho hst
        k_steps
        refine lv_end (by assumption) (by assumption) (sub_cons (by k_memK) (sub_cons (by k_memK) (sub_cons (by k_memK) (sub_cons (by k_memK) (fun q hq => by (repeat apply List.mem_cons_of_mem); exact hq))))) (by kst_all) hS2 hT (.some _ _) (And.right ‹_ ∧ _ ∧ _ ∧ _ ∧ AllLt _ own2›) oT off2 sube subo hn2 hil2
      · have b2 : [Str.ofString "RLE", Str.ofString "LRE", Str.ofString "PDF"].any (· == nm) = false := by subst hnm; decide
        have e1 : nm = Str.ofString "B" := hnm.symm
        have ho : outS b Kd.B st = (some b, nm) := by subst hnm; rfl
        rw [ho]
        clear hnm ho hst
        k_steps
        refine lv_end (by assumption) (by assumption) (sub_cons (by k_memK) (sub_cons (by k_memK) (sub_cons (by k_memK) (sub_cons (by k_memK) (fun q hq => by (repeat apply List.mem_cons_of_mem); exact hq))))) (by kst_all) hS2 hT (.some _ _) (And.right ‹_ ∧ _ ∧ _ ∧ _ ∧ AllLt _ own2›) oT off2 sube subo hn2 hil2
      · have b2 : [Str.ofString "RLE", Str.ofString "LRE", Str.ofString "PDF"].any (· == nm) = true := by rcases hk3 with rfl | rfl | rfl <;> subst hnm <;> decide
        have ho : outS b k st = (none, Str.ofString "BN") := by rcases hk3 with rfl | rfl | rfl <;> rfl
        rw [ho]
        clear hk3 hnm ho hst
        k_steps
        refine lv_end (by assumption) (by assumption) (sub_cons (by k_memK) (sub_cons (by k_memK) (sub_cons (by k_memK) (sub_cons (by k_memK) (fun q hq => by (repeat apply List.mem_cons_of_mem); exact hq))))) (by kst_all) hS2 hT .none (And.right ‹_ ∧ _ ∧ _ ∧ _ ∧ AllLt _ own2›) oT off2 sube subo hn2 hil2
    case first =>
      clear hT oT off2 sube subo
      have hk3 : (k = .L ∨ k = .R ∨ k = .B) ∨ k = .PDF ∨ (k = .RLE ∨ k = .LRE) := by cases k <;> simp
      rcases hk3 with hk3 | rfl | hk3
      · have b1 : [Str.ofString "RLE", Str.ofString "LRE"].any (· == nm) = false := by rcases hk3 with rfl | rfl | rfl <;> subst hnm <;> decide
        have e1 : ¬ nm = Str.ofString "PDF" := by rcases hk3 with rfl | rfl | rfl <;> subst hnm <;> decide
        have hs : stepS k ⟨init, x, nn⟩ = ⟨init, x, nn⟩ := by rcases hk3 with rfl | rfl | rfl <;> rfl
        rw [hs]
        clear hk3 hnm hs
        k_steps
        exact lvm (st := ⟨init, x, nn⟩) rfl (by assumption) (by assumption) (sub_cons (by k_memK) (sub_cons (by k_memK) (sub_cons (by k_memK) (fun q hq => by (repeat apply List.mem_cons_of_mem); exact hq)))) (by kst_all) hS hn (Nat.le_succ_of_le hil)
      · have b1 : [Str.ofString "RLE", Str.ofString "LRE"].any (· == nm) = false := by subst hnm; decide
        have e1 : nm = Str.ofString "PDF" := hnm.symm
        dsimp only [stepS]
        clear hnm
        rcases ints_snoc hS with ⟨rfl, rfl⟩ | ⟨sv2, init2, y, ty, rfl, rfl, hS2⟩
        · k_steps
          · exact lvm (st := ⟨[], x, nn - 1⟩) (sv := []) (show (⟨[], x, nn - 1⟩ : St) = pdf ⟨[], x, nn⟩ from (if_pos (by assumption)).symm) (by assumption) (by assumption) (sub_cons (by k_memK) (sub_cons (by k_memK) (sub_cons (by k_memK) (fun q hq => by (repeat apply List.mem_cons_of_mem); exact hq)))) (by kst_all) .nil (by dsimp only; omega) (Nat.zero_le _)
          · exact lvm (st := ⟨[], x, nn⟩) (sv := []) (show (⟨[], x, nn⟩ : St) = pdf ⟨[], x, nn⟩ from pdf_z (by assumption) hn) (by assumption) (by assumption) (sub_cons (by k_memK) (sub_cons (by k_memK) (sub_cons (by k_memK) (fun q hq => by (repeat apply List.mem_cons_of_mem); exact hq)))) (by kst_all) .nil hn (Nat.zero_le _)
        · have hsp : (sv2 ++ [Value.int y ty]).length = sv2.length + 1 := by rw [List.length_append]; rfl
          have hip : (init2 ++ [y]).length = init2.length + 1 := by rw [List.length_append]; rfl
          k_steps
          · exact lvm (st := ⟨init2 ++ [y], x, nn - 1⟩) (sv := (sv2 ++ [Value.int y ty])) (show (⟨init2 ++ [y], x, nn - 1⟩ : St) = pdf ⟨init2 ++ [y], x, nn⟩ from (if_pos (by assumption)).symm) (by assumption) (by assumption) (sub_cons (by k_memK) (sub_cons (by k_memK) (sub_cons (by k_memK) (fun q hq => by (repeat apply List.mem_cons_of_mem); exact hq)))) (by kst_all) hS (by dsimp only; omega) (Nat.le_succ_of_le hil)
          · exact lvm (st := ⟨init2, y, nn⟩) (sv := sv2) (show (⟨init2, y, nn⟩ : St) = pdf ⟨init2 ++ [y], x, nn⟩ from pdf_p (by assumption) hn) (by assumption) (by assumption) (sub_cons (by k_memK) (sub_cons (by k_memK) (sub_cons (by k_memK) (fun q hq => by (repeat apply List.mem_cons_of_mem); exact hq)))) (by kst_all) hS2 hn (by dsimp only; omega)
      · have b1 : [Str.ofString "RLE", Str.ofString "LRE"].any (· == nm) = true := by rcases hk3 with rfl | rfl <;> subst hnm <;> decide
        obtain ⟨r, e1, hs⟩ : ∃ r : Bool, (nm == Str.ofString "RLE") = r ∧ stepS k ⟨init, x, nn⟩ = emb r ⟨init, x, nn⟩ := by rcases hk3 with rfl | rfl <;> subst hnm <;> exact ⟨_, rfl, rfl⟩
        rw [hs]
        clear hk3 hnm hs
        k_steps
        all_goals first
          | (have hf : fr r x = x + 1 + 1 := fr_bit (c := true) (by assumption) rfl
             first
             | exact lvm (st := ⟨init ++ [x], x + 1 + 1, nn⟩) (sv := sv ++ [Value.int x tx]) (show (⟨init ++ [x], x + 1 + 1, nn⟩ : St) = emb r ⟨init, x, nn⟩ from by unfold emb; dsimp only; rw [hf]; exact (if_pos ⟨by assumption, by assumption⟩).symm) (by assumption) (by assumption) (sub_cons (by k_memK) (sub_cons (by k_memK) (sub_cons (by k_memK) (fun q hq => by (repeat apply List.mem_cons_of_mem); exact hq)))) (by kst_all) (ints_snocI hS _ _) hn (by rw [List.length_append]; exact Nat.succ_le_succ hil)
             | exact lvm (st := ⟨init, x, nn + 1⟩) (sv := sv) (show (⟨init, x, nn + 1⟩ : St) = emb r ⟨init, x, nn⟩ from by unfold emb; dsimp only; rw [hf]; exact (if_neg fun hc => by first | exact absurd hc.2 (by assumption) | exact absurd hc.1 (by assumption)).symm) (by assumption) (by assumption) (sub_cons (by k_memK) (sub_cons (by k_memK) (sub_cons (by k_memK) (fun q hq => by (repeat apply List.mem_cons_of_mem); exact hq)))) (by kst_all) hS (by dsimp only; omega) (Nat.le_succ_of_le hil))
          | (have hf : fr r x = x + 1 := fr_bit (c := false) (by assumption) rfl
             first
             | exact lvm (st := ⟨init ++ [x], x + 1, nn⟩) (sv := sv ++ [Value.int x tx]) (show (⟨init ++ [x], x + 1, nn⟩ : St) = emb r ⟨init, x, nn⟩ from by unfold emb; dsimp only; rw [hf]; exact (if_pos ⟨by assumption, by assumption⟩).symm) (by assumption) (by assumption) (sub_cons (by k_memK) (sub_cons (by k_memK) (sub_cons (by k_memK) (fun q hq => by (repeat apply List.mem_cons_of_mem); exact hq)))) (by kst_all) (ints_snocI hS _ _) hn (by rw [List.length_append]; exact Nat.succ_le_succ hil)
             | exact lvm (st := ⟨init, x, nn + 1⟩) (sv := sv) (show (⟨init, x, nn + 1⟩ : St) = emb r ⟨init, x, nn⟩ from by unfold emb; dsimp only; rw [hf]; exact (if_neg fun hc => by first | exact absurd hc.2 (by assumption) | exact absurd hc.1 (by assumption)).symm) (by assumption) (by assumption) (sub_cons (by k_memK) (sub_cons (by k_memK) (sub_cons (by k_memK) (fun q hq => by (repeat apply List.mem_cons_of_mem); exact hq)))) (by kst_all) hS (by dsimp only; omega) (Nat.le_succ_of_le hil))
  · clear l0x hJ0 N0 sub0
    intro h' tk m' news' F₁ N₁ hJ
    have hsz' : ws.toArray.size = ks.length := by rw [List.size_toArray]; have := hi.length; rwa [List.length_map] at this
    rw [hsz', List.take_length] at hJ
    revert N₁
    induction hJ with
    | mk td tx nf ns fv sv tobjs hm hS hT oT hn hil =>
    intro N₁
    rw [← kst_self hm] at F₁
    k_steps
    refine' hret _ _ _ _ (Fr.keep (by assumption)) (lie_of (by assumption) ?g1y) (.mk Fd nf fv tobjs (by clear hm; omega) hT (ownOff_sub oT (by intro c hc; simp only [List.mem_cons, List.not_mem_nil, or_false] at hc ⊢; rcases hc with h | h <;> simp [h])))
    case g1y =>
      refine sub_cons (by k_mem) (sub_cons (by k_mem) (fun q hq => ?_))
      (repeat apply List.mem_cons_of_mem); exact hq
end
section
section
variable {prog : Program} {w : World} {A : Around} {E : Value → Shared → Prop} {s : Shared} {h₀ : Heap} {L D : Addr} {m : Str → Option Value} {news news' : List (Addr × Obj)}
/-- list.pop(0) of a list that begins with y -/
theorem my_pop0 {q : List Value} {y : Value} {n : Nat} {u : Tok} {Q : Value → Shared → Prop} (F : Fr h₀ L s.heap m) (N : News h₀ L s.heap news) (U : Upd D (listOf (y :: q).toArray n) (listOf q.toArray (n + 1)) news news')
    (hz : q.length + 1 ≤ sizeLine) (h : ∀ h', Fr h₀ L h' m → News h₀ L h' news' → Q y { s with heap := h' }) : wpAny (model prog w) A (call (.builtin "list.pop") [.ref D, .int 0 u]) Q E s :=
  kl_popAt (k := 0) (p := []) (q := q) F N (by decide) (by unfold seqIndex?; simp) (by rfl) U (by simpa using hz) h
end
section
variable {prog : Program} {w : World} {A : Around} {E : Value → Shared → Prop} {s : Shared} {env : Env} {h₀ : Heap} {L : Addr} {m : Str → Option Value}
/-- a comprehension with a test, its turns by what holds between them -/
theorem comp_restT {ct elt : Expr} {x : Str} {scope : Scope} {cl : List (Str × Addr)} {S : List (Addr × Obj) → Prop} {P : Nat → Value → Prop} {Fin : List Value → List (Addr × Obj) → Prop} {n : Nat} (J : Nat → List Value → List (Addr × Obj) → Prop) {news : List (Addr × Obj)}
    (h0 : J 0 [] news)
    (turn : ∀ i v ys news I oI C oC D m₂ h tk (E' : Value → Shared → Prop), i < n → P i v → J i ys news → LCg.NsObj oC m₂ → m₂ x = some v → Fr h₀ L h m → News h₀ L h ((I, oI) :: (C, oC) :: (D, LCg.lst ys) :: news) → LCg.Off3 I C D news → ((@Ne Nat I C) ∧ (@Ne Nat I D) ∧ (@Ne Nat C D)) →
      wpAny (model prog w) A (isTrue ct (compEnvC scope cl C env) (eval ct (compEnvC scope cl C env))) (fun ok s' => if ok = true then
        wpAny (model prog w) A (eval elt (compEnvC scope cl C env)) (LCg.CompEnd h₀ L m { s with heap := h, toks := tk } I oI C oC D (LCg.lst ys) S (fun y news' => J (i + 1) (ys ++ [y]) news')) E' s'
        else LCg.CompEnd h₀ L m { s with heap := h, toks := tk } I oI C oC D (LCg.lst ys) S (fun _ news' => J (i + 1) ys news') Value.none s') E' { s with heap := h, toks := tk })
    (fin : ∀ ys news, J n ys news → Fin ys news) : LCt.CompRestT prog w A h₀ L m env ct elt x scope cl s S P Fin n 0 [] news := by
  have key : ∀ (j i : Nat) (ys : List Value) (news : List (Addr × Obj)), i + j = n → J i ys news → LCt.CompRestT prog w A h₀ L m env ct elt x scope cl s S P Fin j i ys news := by
    intro j
    induction j with
    | zero =>
      intro i ys news hi hJ
      have e : i = n := by omega
      subst e
      exact LCt.CompRestT.zero (fin ys news hJ)
    | succ j ih =>
      intro i ys news hi hJ
      refine LCt.CompRestT.succ ?_
      intro v I oI C oC D m₂ h tk E' hv hC hx F N off ne
      refine wpAny_mono (turn i v ys news I oI C oC D m₂ h tk E' (by omega) hv hJ hC hx F N off ne) (fun ok s₂ hq => ?_) fun _ _ e => e
      cases ok
      · obtain ⟨h', tk', nw, e, F', N', off', hS, hJ'⟩ := hq
        exact ⟨h', tk', nw, e, F', N', off', hS, ih (i + 1) _ _ (by omega) hJ'⟩
      · refine wpAny_mono hq (fun y s₃ hq => ?_) fun _ _ e => e
        obtain ⟨h', tk', nw, e, F', N', off', hS, hJ'⟩ := hq
        exact ⟨h', tk', nw, e, F', N', off', hS, ih (i + 1) _ _ (by omega) hJ'⟩
  exact key n 0 [] news (by omega) h0
end
section
theorem find_map_ne (k k' : Str) (v : Value) (h : k ≠ k') : ∀ kvs : List (Str × Value), (((kvs.map fun kv => if kv.1 = k then (kv.1, v) else kv).find? fun kv => kv.1 = k').map (·.2)) = (kvs.find? fun kv => kv.1 = k').map (·.2)
  | [] => rfl
  | (a, b) :: r => by
    have ih := find_map_ne k k' v h r
    rw [List.map_cons]
    by_cases h1 : a = k
    · have h2 : a ≠ k' := fun e => h (h1.symm.trans e)
      rw [if_pos h1, List.find?_cons_of_neg (by simpa using h2), List.find?_cons_of_neg (by simpa using h2)]
      exact ih
    · rw [if_neg h1]
      by_cases h2 : a = k'
      · rw [List.find?_cons_of_pos (by simpa using h2), List.find?_cons_of_pos (by simpa using h2)]
      · rw [List.find?_cons_of_neg (by simpa using h2), List.find?_cons_of_neg (by simpa using h2)]
        exact ih
theorem valueAt_ne {kvs : List (Str × Value)} {k k' : Str} {v : Value} (h : k ≠ k') : valueAt (stored kvs k v) k' = valueAt kvs k' := by
  unfold stored
  split
  · exact find_map_ne k k' v h kvs
  · unfold valueAt
    rw [List.find?_append]
    simp [h]
theorem stored_len (kvs : List (Str × Value)) (k : Str) (v : Value) : (stored kvs k v).length ≤ kvs.length + 1 := by
  unfold stored
  split
  · rw [List.length_map]; omega
  · rw [List.length_append]; simp
variable {prog : Program} {w : World} {A : Around} {E : Value → Shared → Prop} {s : Shared} {h₀ : Heap} {L d : Addr} {m : Str → Option Value} {news : List (Addr × Obj)} {g : Obj → List (Addr × Obj)} {o : Obj} {kvs : List (Str × Value)} {k : Str} {v : Value}
/-- the table of defaults: what it says of 'bc', and how long it may be -/
def DefT (prog : Program) (w : World) (o : Obj) (n : Nat) : Prop := ∃ kvs t, o.IsDictOf (PySem.strKind prog w) kvs ∧ valueAt kvs (Str.ofString "bc") = some (.str (Str.ofString "L") t) ∧ kvs.length ≤ n
theorem DefT.set {n : Nat} {u : Tok} {Q : Unit → Shared → Prop} (F : Fr h₀ L s.heap m) (N : News h₀ L s.heap news) (U : UpdF d o news g) (hd : DefT prog w o n) (hne : k ≠ Str.ofString "bc") (hn : n ≤ 1000)
    (h : ∀ h' o', Fr h₀ L h' m → News h₀ L h' (g o') → DefT prog w o' (n + 1) → Q () { s with heap := h', toks := s.toks + 1 }) : wpAny (model prog w) A (setItem (.ref d) (.str k u) v) Q E s := by
  obtain ⟨kvs, t, hd, hv, hl⟩ := hd
  refine kda_set F N U hd (strKind_is _ _ _ _) (by rw [sizeLine_eq]; omega) fun h' o' F' N' hd' => h h' o' F' N' ⟨_, t, hd', ?_, ?_⟩
  · rw [valueAt_ne hne]; exact hv
  · exact Nat.le_trans (stored_len _ _ _) (by omega)
theorem made_def {vs : List (Value × Value)} {P : Heap → Prop} {h : Heap} {n : Nat} {t : Tok} (F : Fr h₀ L h m) (N : News h₀ L h news) (hbig : h₀.NoLimit) (hk : allStrKeys vs = true) (hn : ((strPairs vs).map (·.1)).Nodup)
    (hv : valueAt (strPairs vs) (Str.ofString "bc") = some (.str (Str.ofString "L") t)) (hl : (strPairs vs).length ≤ n)
    (k : ∀ h' o, Fr h₀ L h' m → News h₀ L h' ((h.objs.size, o) :: news) → (∀ p ∈ news, p.1 < h.objs.size) → (h.objs.size == sysModules) = false → DefT prog w o n → P h') :
    ∃ kvs, Carries (PySem.strKind prog w) vs kvs ∧ (h.push { cls := .type "dict", data := .dict #[] }).DictOf (PySem.strKind prog w) h.objs.size [] ∧
      ∀ h', h'.DictOf (PySem.strKind prog w) h.objs.size (merged [] kvs) → Heap.SameBut h.objs.size (h.push { cls := .type "dict", data := .dict #[] }) h' → P h' :=
  made_str F N hk hn fun h' o F' N' hd => k h' o F' N' (fun p hp => Heap.lt_size (N p hp).1) (F.notModules (modules_low hbig)) ⟨_, t, hd, hv, hl⟩
end
section
variable {prog : Program} {w : World} {A : Around} {E : Value → Shared → Prop} {s : Shared} {h₀ : Heap} {L a b : Addr} {news : List (Addr × Obj)} {xs ys : List Value} {ds es : List Dat} {ka kb : Nat} {Q : Value → Shared → Prop}
theorem my_ne_same (N : News h₀ L s.heap news) (ma : (a, listOf xs.toArray ka) ∈ news) (Da : DatAll news xs ds) (mb : (b, listOf ys.toArray kb) ∈ news) (Db : DatAll news ys ds)
    (ha : ∀ d ∈ ds, kqdOk 8 d = true) (hu : A.units + 64 < cLine) (h : Q (.bool false) s) : wpAny (model prog w) A (compareOp .NotEq (.ref a) (.ref b)) Q E s :=
  kqd_ne N ma rfl rfl Da (fun _ h => h) mb rfl rfl Db (fun _ h => h) ha ha hu (by simp only [decide_true, Bool.not_true]; exact h)
theorem my_ne_other (N : News h₀ L s.heap news) (ma : (a, listOf xs.toArray ka) ∈ news) (Da : DatAll news xs ds) (mb : (b, listOf ys.toArray kb) ∈ news) (Db : DatAll news ys es)
    (ha : ∀ d ∈ ds, kqdOk 8 d = true) (hb : ∀ d ∈ es, kqdOk 8 d = true) (hne : ds ≠ es) (hu : A.units + 64 < cLine) (h : Q (.bool true) s) : wpAny (model prog w) A (compareOp .NotEq (.ref a) (.ref b)) Q E s :=
  kqd_ne N ma rfl rfl Da (fun _ h => h) mb rfl rfl Db (fun _ h => h) ha hb hu (by simp only [hne, decide_false, Bool.not_false]; exact h)
theorem datAll_strs {ws : List Value} {ns : List Str} (h : StrsAre ws ns) : DatAll news ws (ns.map Dat.str) := by
  induction h with
  | nil => exact .nil
  | cons _ _ _ ih => exact .cons (.str _ _) ih
theorem datAll_ints {ws : List Value} {ns : List Int} (h : IntsAre ws ns) : DatAll news ws (ns.map Dat.int) := by
  induction h with
  | nil => exact .nil
  | cons _ _ _ ih => exact .cons (.int _ _) ih
theorem ok_kind (k : Kd) : kqdOk 8 (Dat.str k.nm) = true := by
  unfold kqdOk
  cases k <;> first | rfl | decide +kernel
theorem ok_kinds (ks : List Kd) : ∀ d ∈ (ks.map Kd.nm).map Dat.str, kqdOk 8 d = true := fun d hd => by
  rw [List.map_map] at hd
  obtain ⟨x, _, rfl⟩ := List.mem_map.mp hd
  exact ok_kind x
theorem ok_ints (ns : List Int) : ∀ d ∈ ns.map Dat.int, kqdOk 8 d = true := fun d hd => by
  obtain ⟨x, _, rfl⟩ := List.mem_map.mp hd
  rfl
end
end
section
section
variable {prog : Program} {w : World} {A : Around} {E : Value → Shared → Prop} {s : Shared} {env : Env} {h₀ : Heap} {m : Str → Option Value} {news : List (Addr × Obj)}
theorem my_iter_tuple {L l : Addr} {items : Array Value} {Q : Value → Shared → Prop} (F : Fr h₀ L s.heap m) (N : News h₀ L s.heap news) (hl : s.heap.IsTuple l items)
    (h : ∀ (h' : Heap) (it : Nat), Fr h₀ L h' m → News h₀ L h' news → h'.IsTupleIter it l 0 → h'.IsTuple l items → l < it → L < it → (∀ p ∈ news, p.1 < it) → h₀.get? it = none → Q (.ref it) { s with heap := h' }) :
    wpAny (model prog w) A (pyIter (.ref l)) Q E s := by
  refine wpAny_pyIter_tuple hl ?_
  have up : ∀ b o, s.heap.get? b = some o → (s.heap.push { cls := .type "tuple_iterator", data := .fields #[.ref l, .int 0 0] }).get? b = some o := fun b o e => Heap.get?_push_of_some _ e
  obtain ⟨ol, hol, _⟩ := id hl
  refine h _ s.heap.objs.size (F.keeps up) (N.grown up) ⟨_, Heap.get?_push_size _ rfl, rfl, rfl⟩ (hl.push _) (Heap.lt_size hol) F.ns.lt (fun p hp => Heap.lt_size (N p hp).1) (next_is_new F)
theorem for_tuple {R : Result → Shared → Prop} {x : Str} {px : Pos} {body : List Stmt} {it l : Addr} {items : Array Value} (adr : List Addr)
    (J : Nat → (Str → Option Value) → List (Addr × Obj) → Prop)
    (hh : A.handled = none) (F : Fr h₀ env.locals s.heap m) (N : News h₀ env.locals s.heap news)
    (hit : s.heap.IsTupleIter it l 0) (hl : s.heap.IsTuple l items)
    (o2 : @LT.lt Nat _ l it) (o3 : @LT.lt Nat _ env.locals it) (n2 : h₀.get? it = none)
    (hadr : ∀ a ∈ adr, @LT.lt Nat _ a it) (hnews : ∀ p ∈ news, @LT.lt Nat _ p.1 it)
    (hx : env.kindOf x = some .local)
    (hp : (env.scope.kind == .class || (env.scope.kind == .module && env.locals != env.globals)) = false)
    (keepL : ∀ i h' m' news', Fr h₀ env.locals h' m' → News h₀ env.locals h' news' → J i m' news' → h'.IsTuple l items)
    (h0 : J 0 m news)
    (turn : ∀ i v m₁ news₁ h tk own, items[i]? = some v → J i m₁ news₁ → OwnOff own adr → OwnOff own (news₁.map (·.1)) → Fr h₀ env.locals h (fun y => if y = x then some v else m₁ y) → News h₀ env.locals h (news₁ ++ own) →
      wpAny (model prog w) A (execs body env) (TurnEnd h₀ env.locals own (J (i + 1)) { s with heap := h, toks := tk } (fun v s' => R (.ok (.ret v)) s') fun s' => R (.ok .next) s') (notedBy (model prog w) A env fun e s' => R (.error e) s') { s with heap := h, toks := tk })
    (done : ∀ h' tk m' news', Fr h₀ env.locals h' m' → News h₀ env.locals h' news' → J items.size m' news' → R (.ok .next) { s with heap := h', toks := tk }) :
    codeAny (model prog w) A (.forLoop (.Name x px) (.ref it) body [] env) R s := by
  have W := Walks.tuple (prog := prog) (w := w) hh it l (Nat.ne_of_lt o2) items
  have Li : env.locals ≠ it := Nat.ne_of_lt o3
  refine codeAny_forLoop
    (LpS s h₀ env.locals items.size (fun h' i => (h'.IsTupleIter it l i ∧ h'.IsTuple l items)) (fun a => a ≠ it) J) ?_ (items.size + 1)
    (.mk s.heap s.toks m news 0 ⟨hit, hl⟩ F N (fun p hp' => Nat.ne_of_lt (hnews p hp')) h0 (Nat.zero_le _))
  intro k s' hS
  induction hS with
  | mk H tk m' news' i hst F' N' hoff hJ hi =>
  have next : ∀ h₁ : Heap, (∀ b o, b ∉ [it] → H.get? b = some o → h₁.get? b = some o) → Fr h₀ env.locals h₁ m' ∧ News h₀ env.locals h₁ news' := fun h₁ hk =>
    ⟨⟨F'.ns.at' fun o x => hk _ o (by simp [Li]) x, fun b o x => hk b o (by
        intro hb
        rw [List.mem_singleton.mp hb, n2] at x; cases x) (F'.keep b o x), F'.above⟩,
      fun p hq => ⟨hk _ _ (by simp [hoff p hq]) (N' p hq).1, (N' p hq).2⟩⟩
  by_cases hlt : i < items.size
  · refine W.item i _ _ _ hlt hst fun v h₁ tk₁ hv hst₁ hk₁ => ?_
    obtain ⟨F₁, N₁⟩ := next h₁ hk₁
    refine wpAny_assign_Name (wpAny_storeName_local hx F₁.ns (fun h₅ hn₅ hs₅ => ?_) hp)
    replace hs₅ : Heap.SameBut env.locals h₁ h₅ := hs₅
    have F₅ := F₁.set hn₅ hs₅
    have N₅ : News h₀ env.locals h₅ news' := N₁.set hs₅
    obtain ⟨⟨oi, hoi, hoi'⟩, hl₁⟩ := hst₁
    have hi₅ : h₅.get? it = some oi := hs₅.extBut it oi (Ne.symm Li) hoi
    have ow : ∀ b : Addr, b ≠ it → ∀ p ∈ [(it, oi)], p.1 ≠ b := fun b hb p hp' => by rw [List.mem_singleton.mp hp']; exact Ne.symm hb
    refine wpAny_mono (turn i v m' news' h₅ _ [(it, oi)] hv hJ
      (fun p hp' b hb => ow b (Nat.ne_of_lt (hadr b hb)) p hp')
      (fun p hp' b hb => by
        obtain ⟨q, hq, rfl⟩ := List.mem_map.mp hb
        exact ow _ (hoff q hq) p hp') F₅ (fun p hp' => ?_)) (fun f s₃ h₆ => ?_) fun _ _ x => x
    · rcases List.mem_append.mp hp' with hp' | hp'
      · exact N₅ p hp'
      · rw [List.mem_singleton.mp hp']; exact ⟨hi₅, Ne.symm Li, n2⟩
    · have fin : ∀ tkx, TurnEnd h₀ env.locals [(it, oi)] (J (i + 1)) { s with heap := h₅, toks := tkx } (fun v s' => R (.ok (.ret v)) s') (fun s' => R (.ok .next) s') .next s₃ →
          ∃ k', k' < items.size + 1 - i ∧ LpS s h₀ env.locals items.size (fun h' i => (h'.IsTupleIter it l i ∧ h'.IsTuple l items)) (fun a => a ≠ it) J k' s₃ := by
        rintro tkx ⟨h₇, tk₇, m₇, news₇, rfl, F₇, N₇, hd₇, hJ₇⟩
        have g2 := (N₇ (it, oi) (List.mem_append_right _ (.head _))).1
        exact ⟨items.size + 1 - (i + 1), Nat.sub_lt_sub_left (Nat.lt_succ_of_lt hlt) (Nat.lt_succ_self i), .mk h₇ tk₇ m₇ news₇ (i + 1) ⟨⟨oi, g2, hoi'⟩, keepL (i + 1) h₇ m₇ news₇ F₇ (fun q hq => N₇ q (List.mem_append_left _ hq)) hJ₇⟩ F₇ (fun q hq => N₇ q (List.mem_append_left _ hq)) (fun q hq x => hd₇ (it, _) (.head _) q.1 (List.mem_map_of_mem hq) x.symm) hJ₇ hlt⟩
      cases f with
      | ret v => exact h₆
      | brk => exact h₆
      | cont => exact fin _ h₆
      | next => exact fin _ h₆
  · have hin : i = items.size := by omega
    subst hin
    refine W.done _ _ _ hst fun h₁ tk₁ hk₁ => wpAny_execs_nil ?_
    obtain ⟨F₁, N₁⟩ := next h₁ hk₁
    exact done h₁ tk₁ m' news' F₁ N₁ hJ
end
/-- a name that is not 'bc' -/
def isKey : Value → Bool
  | .str x _ => decide (x ≠ Str.ofString "bc")
  | _ => false
theorem isKey.out {v : Value} (h : isKey v = true) : ∃ x t, v = .str x t ∧ x ≠ Str.ofString "bc" := by
  cases v <;> first | cases h | exact ⟨_, _, rfl, of_decide_eq_true h⟩
theorem keys_at {vs : List Value} (h : vs.all isKey = true) {i : Nat} {v : Value} (e : vs.toArray[i]? = some v) : ∃ x t, v = .str x t ∧ x ≠ Str.ofString "bc" :=
  isKey.out (List.all_eq_true.mp h v (List.mem_of_getElem? (by simpa using e)))
theorem name_of {P : Prop} {d : Addr} (_h : (d == sysModules) = false) (k : ∀ D' : Nat, d = D' → P) : P := k d rfl
theorem name_pair {P : Prop} {g h : Heap} {L a b : Addr} {o1 o2 : Obj} {r : List (Addr × Obj)} (_N : News g L h ((a, o1) :: (b, o2) :: r)) (k : ∀ (a' b' : Nat) (oL oC : Obj), a' = a → b' = b → oL = o1 → oC = o2 → P) : P := k _ _ _ _ rfl rfl rfl rfl
end
section
section
variable {prog : Program} {w : World} {A : Around} {E : Value → Shared → Prop} {s : Shared} {env : Env} {h₀ : Heap} {m : Str → Option Value} {news : List (Addr × Obj)}
/-- a for over a list; the target may be anything that the walk can assign -/
theorem for_gen {R : Result → Shared → Prop} {elts : List Expr} {tx1} {tp : Pos} {body : List Stmt} {it l : Addr} {items : Array Value} (adr : List Addr)
    (J : Nat → (Str → Option Value) → List (Addr × Obj) → Prop)
    (hh : A.handled = none) (F : Fr h₀ env.locals s.heap m) (N : News h₀ env.locals s.heap news)
    (hit : s.heap.IsListIter it l 0) (hl : s.heap.IsList l items)
    (o2 : @LT.lt Nat _ l it) (o3 : @LT.lt Nat _ env.locals it) (n2 : h₀.get? it = none)
    (hadr : ∀ a ∈ adr, @LT.lt Nat _ a it) (hnews : ∀ p ∈ news, @LT.lt Nat _ p.1 it)
    (hrf : ∀ (i : Nat) v, items[i]? = some v → ∃ T, v = .ref T)
    (keepL : ∀ i h' m' news', Fr h₀ env.locals h' m' → News h₀ env.locals h' news' → J i m' news' → h'.IsList l items)
    (h0 : J 0 m news)
    (turn : ∀ i v m₁ news₁ h tk own, items[i]? = some v → J i m₁ news₁ → OwnOff own adr → OwnOff own (news₁.map (·.1)) → Fr h₀ env.locals h m₁ → News h₀ env.locals h (news₁ ++ own) →
      wpAny (model prog w) A (assign (.Tuple elts tx1 tp) env v) (fun _ s₂ => wpAny (model prog w) A (execs body env) (TurnEnd h₀ env.locals own (J (i + 1)) { s with heap := h, toks := tk } (fun v s' => R (.ok (.ret v)) s') fun s' => R (.ok .next) s') (notedBy (model prog w) A env fun e s' => R (.error e) s') s₂) (notedBy (model prog w) A env fun e s' => R (.error e) s') { s with heap := h, toks := tk })
    (done : ∀ h' tk m' news', Fr h₀ env.locals h' m' → News h₀ env.locals h' news' → J items.size m' news' → R (.ok .next) { s with heap := h', toks := tk }) :
    codeAny (model prog w) A (.forLoop (.Tuple elts tx1 tp) (.ref it) body [] env) R s := by
  have W := Walks.list (prog := prog) (w := w) hh it l (Nat.ne_of_lt o2) items
  have Li : env.locals ≠ it := Nat.ne_of_lt o3
  refine codeAny_forLoop_any
    (LpS s h₀ env.locals items.size (fun h' i => (h'.IsListIter it l i ∧ h'.IsList l items)) (fun a => a ≠ it) J) ?_ (items.size + 1)
    (.mk s.heap s.toks m news 0 ⟨hit, hl⟩ F N (fun p hp' => Nat.ne_of_lt (hnews p hp')) h0 (Nat.zero_le _))
  intro k s' hS
  induction hS with
  | mk H tk m' news' i hst F' N' hoff hJ hi =>
  have next : ∀ h₁ : Heap, (∀ b o, b ∉ [it] → H.get? b = some o → h₁.get? b = some o) → Fr h₀ env.locals h₁ m' ∧ News h₀ env.locals h₁ news' := fun h₁ hk =>
    ⟨⟨F'.ns.at' fun o x => hk _ o (by simp [Li]) x, fun b o x => hk b o (by
        intro hb
        rw [List.mem_singleton.mp hb, n2] at x; cases x) (F'.keep b o x), F'.above⟩,
      fun p hq => ⟨hk _ _ (by simp [hoff p hq]) (N' p hq).1, (N' p hq).2⟩⟩
  by_cases hlt : i < items.size
  · refine W.item i _ _ _ hlt hst fun v h₁ tk₁ hv hst₁ hk₁ => ?_
    obtain ⟨F₁, N₁⟩ := next h₁ hk₁
    obtain ⟨Tv, rfl⟩ := hrf i v hv
    refine wpAny_letOwnedTupleGo_listiter hst₁.1 ?_
    obtain ⟨⟨oi, hoi, hoi'⟩, hl₁⟩ := hst₁
    have ow : ∀ b : Addr, b ≠ it → ∀ p ∈ [(it, oi)], p.1 ≠ b := fun b hb p hp' => by rw [List.mem_singleton.mp hp']; exact Ne.symm hb
    refine wpAny_mono (turn i (.ref Tv) m' news' h₁ _ [(it, oi)] hv hJ
      (fun p hp' b hb => ow b (Nat.ne_of_lt (hadr b hb)) p hp')
      (fun p hp' b hb => by
        obtain ⟨q, hq, rfl⟩ := List.mem_map.mp hb
        exact ow _ (hoff q hq) p hp') F₁ (fun p hp' => ?_)) (fun _ s₂ h₆ => wpAny_mono h₆ (fun f s₃ h₆ => ?_) fun _ _ x => x) fun _ _ x => x
    · rcases List.mem_append.mp hp' with hp' | hp'
      · exact N₁ p hp'
      · rw [List.mem_singleton.mp hp']; exact ⟨hoi, Ne.symm Li, n2⟩
    · have fin : ∀ tkx, TurnEnd h₀ env.locals [(it, oi)] (J (i + 1)) { s with heap := h₁, toks := tkx } (fun v s' => R (.ok (.ret v)) s') (fun s' => R (.ok .next) s') .next s₃ →
          ∃ k', k' < items.size + 1 - i ∧ LpS s h₀ env.locals items.size (fun h' i => (h'.IsListIter it l i ∧ h'.IsList l items)) (fun a => a ≠ it) J k' s₃ := by
        rintro tkx ⟨h₇, tk₇, m₇, news₇, rfl, F₇, N₇, hd₇, hJ₇⟩
        have g2 := (N₇ (it, oi) (List.mem_append_right _ (.head _))).1
        exact ⟨items.size + 1 - (i + 1), Nat.sub_lt_sub_left (Nat.lt_succ_of_lt hlt) (Nat.lt_succ_self i), .mk h₇ tk₇ m₇ news₇ (i + 1) ⟨⟨oi, g2, hoi'⟩, keepL (i + 1) h₇ m₇ news₇ F₇ (fun q hq => N₇ q (List.mem_append_left _ hq)) hJ₇⟩ F₇ (fun q hq => N₇ q (List.mem_append_left _ hq)) (fun q hq x => hd₇ (it, _) (.head _) q.1 (List.mem_map_of_mem hq) x.symm) hJ₇ hlt⟩
      cases f with
      | ret v => exact h₆
      | brk => exact h₆
      | cont => exact fin _ h₆
      | next => exact fin _ h₆
  · have hin : i = items.size := by omega
    subst hin
    refine W.done _ _ _ hst fun h₁ tk₁ hk₁ => wpAny_execs_nil ?_
    obtain ⟨F₁, N₁⟩ := next h₁ hk₁
    exact done h₁ tk₁ m' news' F₁ N₁ hJ
end
end
section
set_option genInjectivity false in
set_option genSizeOfSpec false in
/-- the data while it is being filled: the seven objects -/
structure DP (w : World) where
  D : Nat
  dD : Nat
  M : Nat
  RM : Nat
  dR : Nat
  St : Nat
  Vl : Nat
  oM : Obj
  t1 : Tok
  t2 : Tok
  t3 : Tok
  t4 : Tok
  t5 : Tok
  t6 : Tok
  t7 : Tok
  df : Value
  pr : Value
  wo : Value
  df2 : Value
  hM : oM.IsDictOf (PySem.strKind PySem.Challenge.rw_hb0008_01.row.prog w) [(Str.ofString "bc", .ref RM)]
  lo : ((M : Addr) == sysModules) = false
  o1 : dD < D
  o2 : D < M
  o3 : M < dR
  o4 : dR < RM
  o5 : RM < St
  o6 : RM < Vl
abbrev DP.rel {w : World} (d : DP w) (vs ws : List Value) (n1 n2 : Nat) : List (Addr × Obj) := [(d.D, instObj 306 d.dD), (d.dD, datD w d.t1 d.t2 d.t3 d.t4 d.df (.ref d.M) d.pr d.wo), (d.M, d.oM), (d.RM, instObj 257 d.dR), (d.dR, rmD w d.t5 d.t6 d.t7 d.df2 (.ref d.St) (.ref d.Vl)),
  (d.St, listOf vs.toArray n1), (d.Vl, listOf ws.toArray n2)]
def DP.upd {w : World} (d : DP w) (St Vl : Nat) (t5 t6 t7 : Tok) (o5 : d.RM < St) (o6 : d.RM < Vl) : DP w := { d with St := St, Vl := Vl, t5 := t5, t6 := t6, t7 := t7, o5 := o5, o6 := o6 }
theorem DP.upd_D {w : World} (d : DP w) (St Vl : Nat) (t5 t6 t7 : Tok) (o5 : d.RM < St) (o6 : d.RM < Vl) : (d.upd St Vl t5 t6 t7 o5 o6).D = d.D := rfl
theorem sorted_of {ns : List Int} (h : ns.Pairwise (· ≤ ·)) : ∀ (i j : Nat) (x y : Int), ns[i]? = some x → ns[j]? = some y → i ≤ j → x ≤ y := by
  intro i j x y h1 h2 hij
  obtain ⟨a1, rfl⟩ := List.getElem?_eq_some_iff.mp h1
  obtain ⟨a2, rfl⟩ := List.getElem?_eq_some_iff.mp h2
  rcases Nat.lt_or_ge i j with h3 | h3
  · exact List.pairwise_iff_getElem.mp h i j a1 a2 h3
  · have : i = j := Nat.le_antisymm hij h3
    subst this
    exact Int.le_refl _
end
section
theorem place_at (w : World) (St : Nat) (vs : List Value) (ns : List Int) (n : Nat) (c : Int) (tc : Tok) (r : Int) (hi : IntsAre vs ns) (hlen : ns.length ≤ 1000)
  (hsort : ∀ (i j : Nat) x y, ns[i]? = some x → ns[j]? = some y → i ≤ j → x ≤ y) (hp : pl ns c = r) :
  Spec w 900 207 [.ref St, .int c tc] [(St, listOf vs.toArray n)] (fun v rel' => rel' = [(St, listOf vs.toArray n)] ∧ ∃ t, v = .int (r - 1) t) := by
  refine spec_mono (place_spec w St vs ns n c tc hi hlen hsort) fun v rel' h => ?_
  obtain ⟨h1, t, r', h2, h3⟩ := h
  exact ⟨h1, t, by rw [h2, place_r h3, hp]⟩
theorem my_cut {prog : Program} {w : World} {A : Around} {E : Value → Shared → Prop} {s : Shared} {h₀ : Heap} {L l : Addr} {m : Str → Option Value} {news : List (Addr × Obj)} {value slice : PySem.Expr} {vs : List Value} {n : Nat} {vl vu : Value} {lo hi : Option Int} {Q : Value → Shared → Prop}
    (F : Fr h₀ L s.heap m) (N : News h₀ L s.heap news) (hm : (l, listOf vs.toArray n) ∈ news) (pl : IsPart vl lo) (pu : IsPart vu hi) (hz : vs.length ≤ 1000)
    (h : ∀ D h', Fr h₀ L h' m → News h₀ L h' ((D, listOf (kms_pick vs lo hi).toArray 0) :: news) → (∀ p ∈ news, p.1 < D) → Q (.ref D) { s with heap := h' })
    (hs : subscripted slice false (.ref l) (.ref s.heap.objs.size) = operate [.ref s.heap.objs.size, .ref l] (getItem (.ref l) (.ref s.heap.objs.size))) (ht : ∀ r, letTemporaryGo value (.ref l) r = pure ()) :
    wpAny (model prog w) A (subscriptTail value slice (.ref l) (.ref s.heap.objs.size)) Q E { s with heap := s.heap.push { cls := .type "slice", data := .fields #[vl, vu, .none] } } :=
  kms_slice_lit F N (News.isList N hm) pl pu rfl h hs ht (by rw [List.size_toArray, sizeLine_eq]; omega)
theorem my_cat {prog : Program} {w : World} {A : Around} {E : Value → Shared → Prop} {s : Shared} {h₀ : Heap} {L a b : Addr} {m : Str → Option Value} {news : List (Addr × Obj)} {xs ys : List Value} {n1 n2 : Nat} {Q : Value → Shared → Prop}
    (F : Fr h₀ L s.heap m) (N : News h₀ L s.heap news) (ha : (a, listOf xs.toArray n1) ∈ news) (hb : (b, listOf ys.toArray n2) ∈ news) (hz : (xs ++ ys).length ≤ 1000)
    (h : ∀ D h', Fr h₀ L h' m → News h₀ L h' ((D, listOf (xs ++ ys).toArray 0) :: news) → (∀ p ∈ news, p.1 < D) → Q (.ref D) { s with heap := h' }) :
    wpAny (model prog w) A (binaryOp .Add (.ref a) (.ref b)) Q E s :=
  kmk_add_lit F N (News.isList N ha) (News.isList N hb) rfl h (by rw [List.length_append] at hz; rw [sizeLine_eq]; show xs.length + ys.length ≤ _; omega)
theorem like_ne (w : World) (x y : Str) (tx ty : Tok) (h : ¬ x = y) : Spec w 820 212 [.str x tx, .str y ty] [] (fun v rel' => rel' = [] ∧ v = .bool false) := by
  unfold Spec
  k_fill
  intro p loose mean mg mb outer base g s R B X T hsz st N hret
  refine' enter_defC (K := hd.heap_1 w.params) B X T hsz st N ?k1 ?k2 ?k3 ?k4 ?k5 ?k6 ?_ ?c1 ?c2 ?c3
  case k1 => k_is
  case k2 => k_is
  case k3 => exact Nat.le_of_ble_eq_true rfl
  case k4 => exact BindsTo.of_eq rfl
  case k5 => exact rfl
  case k6 => decide +kernel
  case c1 => exact rfl
  case c2 => exact rfl
  case c3 => exact rfl
  intro L' h' tk0 cells' F' N' Y' B' X' T' l1
  try dsimp only [DT.rel] at N' l1
  k_lt l1
  k_cells Y'
  simp only [List.cons_append, List.nil_append] at N'
  try dsimp only
  show wpAny _ _ _ _ _ _
  k_fold
  k_steps
  exact hret _ _ _ [] (Fr.keep (by assumption)) (fun _ h => nomatch h) ⟨rfl, rfl⟩
theorem like_eq (w : World) (x y : Str) (tx ty : Tok) (h : x = y) : Spec w 820 212 [.str x tx, .str y ty] [] (fun v rel' => rel' = [] ∧ v = .bool true) := by
  unfold Spec
  k_fill
  intro p loose mean mg mb outer base g s R B X T hsz st N hret
  refine' enter_defC (K := hd.heap_1 w.params) B X T hsz st N ?k1 ?k2 ?k3 ?k4 ?k5 ?k6 ?_ ?c1 ?c2 ?c3
  case k1 => k_is
  case k2 => k_is
  case k3 => exact Nat.le_of_ble_eq_true rfl
  case k4 => exact BindsTo.of_eq rfl
  case k5 => exact rfl
  case k6 => decide +kernel
  case c1 => exact rfl
  case c2 => exact rfl
  case c3 => exact rfl
  intro L' h' tk0 cells' F' N' Y' B' X' T' l1
  try dsimp only [DT.rel] at N' l1
  k_lt l1
  k_cells Y'
  simp only [List.cons_append, List.nil_append] at N'
  try dsimp only
  show wpAny _ _ _ _ _ _
  k_fold
  k_steps
  exact hret _ _ _ [] (Fr.keep (by assumption)) (fun _ h => nomatch h) ⟨rfl, rfl⟩
end
section
local macro_rules | `(tactic| walk_at "call builtin:max") => `(tactic| (k_here; refine' my_max (by omega) rfl (by k_asm) (by k_asm) ?_; intro h' tk' F' N'; (try k_sweep)))
local macro_rules | `(tactic| walk_at "call builtin:min") => `(tactic| (k_here; refine' my_min (by omega) rfl (by k_asm) (by k_asm) ?_; intro h' tk' F' N'; (try k_sweep)))
local macro_rules | `(tactic| walk_at "call ref") => `(tactic| (k_here; (with_reducible show wpAny _ _ (call (Value.ref 212) _) _ _ _); refine Halt.out ?_))
local macro_rules | `(tactic| walk_at "call ref") => `(tactic| (k_here; (with_reducible show wpAny _ _ (call (Value.ref 212) _) _ _ _); k_dflt (refine' use_rva (like_eq _ _ _ _ _ (by assumption)) ?_ (hrel := by exact List.forall_mem_nil _)); intro h' tk' F' N'))
local macro_rules | `(tactic| walk_at "call ref") => `(tactic| (k_here; (with_reducible show wpAny _ _ (call (Value.ref 212) _) _ _ _); k_dflt (refine' use_rva (like_ne _ _ _ _ _ (by assumption)) ?_ (hrel := by exact List.forall_mem_nil _)); intro h' tk' F' N'))
local macro_rules | `(tactic| walk_at "call ref") => `(tactic| (k_here; (with_reducible show wpAny _ _ (call (Value.ref 207) _) _ _ _); k_dflt (refine' use_rfa (place_at _ _ _ _ _ _ _ _ (by assumption) (by assumption) (by assumption) (by assumption)) ?_ (hrel := by exact List.forall_mem_singleton.mpr (by k_mem))); intro h' tk' t' F' N'))
local macro_rules | `(tactic| walk_at "subscriptTail") => `(tactic| (k_here; (with_reducible show wpAny _ _ (subscriptTail _ _ (Value.ref _) (Value.int _ _)) _ _ _); k_dflt (refine' my_item (by k_asm) (by k_mem) (by omega) (by omega) (by assumption) ?_ (by with_unfolding_all rfl)); k_whole))
local macro_rules | `(tactic| walk_at "subscriptTail Name Slice ref ref") => `(tactic| (k_here; (with_reducible show wpAny _ _ (subscriptTail _ (PySem.Expr.Slice _ _ none _) (Value.ref _) (Value.ref _)) _ _ _); k_dflt (refine' my_cut (by k_asm) (by k_asm) (by k_mem) (by kmk_part) (by kmk_part) (by (first | assumption | exact Nat.le_of_ble_eq_true rfl)) ?_ (by with_unfolding_all rfl) (by kmk_pure)); intro D' h' F' N' l1; (try k_lt l1); (try k_sweep)))
local macro_rules | `(tactic| walk_at "subscriptTail Attribute Slice ref ref") => `(tactic| (k_here; (with_reducible show wpAny _ _ (subscriptTail _ (PySem.Expr.Slice _ _ none _) (Value.ref _) (Value.ref _)) _ _ _); k_dflt (refine' my_cut (by k_asm) (by k_asm) (by k_mem) (by kmk_part) (by kmk_part) (by (first | assumption | exact Nat.le_of_ble_eq_true rfl)) ?_ (by with_unfolding_all rfl) (by kmk_pure)); intro D' h' F' N' l1; (try k_lt l1); (try k_sweep)))
theorem kms_le (l : List Value) (lo hi : Option Int) : (kms_pick l lo hi).length ≤ l.length := by
  unfold kms_pick
  rw [List.length_take, List.length_drop]
  exact Nat.le_trans (Nat.min_le_right _ _) (Nat.sub_le _ _)
theorem kms_fits {l : List Value} {lo hi : Option Int} (h : l.length ≤ 300) : (kms_pick l lo hi).length ≤ 300 := Nat.le_trans (kms_le l lo hi) h
theorem kms_fits2 {l : List Value} {lo hi : Option Int} {a b : Value} (h : l.length ≤ 300) : (kms_pick l lo hi ++ [a, b]).length ≤ 300 + 2 := by
  rw [List.length_append]; exact Nat.add_le_add_right (kms_fits h) 2
theorem kms_fits3 {l : List Value} {lo hi lo' hi' : Option Int} {a : Value} (h : l.length ≤ 300) : (kms_pick l lo hi ++ kms_pick [a] lo' hi').length ≤ 300 + 2 := by
  rw [List.length_append]; exact Nat.add_le_add (kms_fits h) (Nat.le_trans (kms_le _ _ _) (Nat.le_of_ble_eq_true rfl))
theorem my_cat2 {prog : Program} {w : World} {A : Around} {E : Value → Shared → Prop} {s : Shared} {h₀ : Heap} {L a b : Addr} {m : Str → Option Value} {news : List (Addr × Obj)} {xs ys : List Value} {n1 n2 : Nat} {Q : Value → Shared → Prop}
    (F : Fr h₀ L s.heap m) (N : News h₀ L s.heap news) (ha : (a, listOf xs.toArray n1) ∈ news) (hb : (b, listOf ys.toArray n2) ∈ news) (hx : xs.length ≤ 300 + 2) (hy : ys.length ≤ 300)
    (h : ∀ D h', Fr h₀ L h' m → News h₀ L h' ((D, listOf (xs ++ ys).toArray 0) :: news) → (∀ p ∈ news, p.1 < D) → Q (.ref D) { s with heap := h' }) :
    wpAny (model prog w) A (binaryOp .Add (.ref a) (.ref b)) Q E s := my_cat F N ha hb (by rw [List.length_append]; omega) h
inductive RputR (w : World) (RM dR : Nat) (df2 : Value) (c : Int) (kn : Str) (lo hi : Int) (vs ws : List Value) : Value → List (Addr × Obj) → Prop
  | mk (St Vl : Nat) (t5 t6 t7 tx ty tv tz : Tok) (n1 n2 : Nat) : RM < St → RM < Vl → RputR w RM dR df2 c kn lo hi vs ws .none
     [(RM, instObj 257 dR), (dR, rmD w t5 t6 t7 df2 (.ref St) (.ref Vl)), (St, listOf (kms_pick vs none (some (lo - 1 + 1)) ++ [Value.int c tx, Value.int (c + 1) ty] ++ kms_pick vs (some (hi - 1 + 1)) none).toArray n1),
      (Vl, listOf (kms_pick ws none (some (lo - 1 + 1)) ++ [Value.str kn tv, Value.str (Str.ofString "L") tz] ++ kms_pick ws (some (hi - 1 + 1)) none).toArray n2)]
local macro_rules | `(tactic| walk_at "binaryOp Add ref ref") => `(tactic| (k_here; (with_reducible show wpAny _ _ (binaryOp _ (Value.ref _) (Value.ref _)) _ _ _); k_dflt (refine' my_cat2 (by k_asm) (by k_asm) (by k_mem) (by k_mem) (by (first | exact kms_fits2 (by assumption) | exact kms_fits3 (by assumption) | exact Nat.le_trans (kms_fits (by assumption)) (Nat.le_add_right _ _))) (by (first | exact kms_fits (by assumption) | exact kms_fits (Nat.le_of_ble_eq_true rfl) | exact Nat.le_of_ble_eq_true rfl)) ?_); intro D' h' F' N' l1; (try k_lt l1); (try k_sweep)))
inductive RputL (w : World) (RM dR : Nat) (df2 : Value) (lo hi : Int) (vs ws : List Value) : Value → List (Addr × Obj) → Prop
  | mk (St Vl : Nat) (t5 t6 t7 : Tok) (vx vy : Value) (n1 n2 : Nat) : RM < St → RM < Vl → RputL w RM dR df2 lo hi vs ws .none
     [(RM, instObj 257 dR), (dR, rmD w t5 t6 t7 df2 (.ref St) (.ref Vl)), (St, listOf (kms_pick vs none (some (lo - 1 + 1)) ++ kms_pick [vx] (some 1) none ++ kms_pick vs (some (hi - 1 + 1)) none).toArray n1),
      (Vl, listOf (kms_pick ws none (some (lo - 1 + 1)) ++ kms_pick [vy] (some 1) none ++ kms_pick ws (some (hi - 1 + 1)) none).toArray n2)]
theorem rput_all (w : World) (RM dR St Vl : Nat) (t5 t6 t7 : Tok) (df2 : Value) (vs ws : List Value) (c : Int) (kn : Str) (S : List Int) (lo hi : Int) (ta tc tv : Tok) (n1 n2 : Nat) (hc0 : 500 ≤ c) (hc1 : c ≤ 600) (o4 : dR < RM) (o5 : RM < St) (o6 : RM < Vl) (hs : IntsAre vs S)
   (hlen : S.length ≤ 1000) (hsorted : ∀ (i j : Nat) (x y : Int), S[i]? = some x → S[j]? = some y → i ≤ j → x ≤ y) (hp1 : pl S (c - 1) = lo) (hp2 : pl S (c + 1) = hi) (hlo : 0 < lo) (hlo2 : lo ≤ 50) (hhi : 0 < hi) (hhi2 : hi ≤ 50) (tz ty : Tok) (y : Str)
   (hW1 : ws[(hi - 1 + 1 - 1).toNat]? = some (.str (Str.ofString "L") tz)) (hW2 : ws[(lo - 1 + 1 - 1).toNat]? = some (.str y ty)) (hcase : (¬ Str.ofString "L" = kn ∧ ¬ y = kn) ∨ (kn = Str.ofString "L" ∧ y = kn)) (hlv : vs.length ≤ 300) (hlW : ws.length ≤ 300) :
  Spec w 805 240 [.ref RM, .int c ta, .int c tc, .str kn tv] [(RM, instObj 257 dR), (dR, rmD w t5 t6 t7 df2 (.ref St) (.ref Vl)), (St, listOf vs.toArray n1), (Vl, listOf ws.toArray n2)] (fun v rel' => (¬ Str.ofString "L" = kn ∧ RputR w RM dR df2 c kn lo hi vs ws v rel') ∨ (kn = Str.ofString "L" ∧ RputL w RM dR df2 lo hi vs ws v rel')) := by
  have hlv' : vs.length ≤ 1000 := by omega
  have hlW' : ws.length ≤ 1000 := by omega
  unfold Spec
  k_fill
  intro p loose mean mg mb outer base g s R B X T hsz st N hret
  refine' enter_defB [(Str.ofString "value", .str kn tv), (Str.ofString "last", .int c tc), (Str.ofString "first", .int c ta), (Str.ofString "self", .ref RM)] (K := hd.heap_1 w.params) B X T hsz st N ?k1 ?k2 ?k3 ?k4 ?k5 ?_ ?c1 ?c2 ?c3 ?c4
  case k1 => k_is
  case k2 => k_is
  case k3 => exact Nat.le_of_ble_eq_true rfl
  case k4 => exact BindsTo.of_eq rfl
  case k5 => exact locs rfl
  case c1 => exact rfl
  case c2 => exact rfl
  case c3 => exact rfl
  case c4 => decide
  intro L' h' tk0 F' N' B' X' T' l1
  try k_lt l1
  try dsimp only
  show wpAny _ _ _ _ _ _
  try k_fold
  k_steps
  refine Halt.mk ?_
  rcases hcase with ⟨hk1, hk2⟩ | ⟨hk1, hk2⟩
  · k_steps
    refine' hret _ _ _ _ (Fr.keep (by assumption)) (lie_of (by assumption) ?g1) (.inl ⟨hk1, .mk ?St' ?Vl' t5 ?t6 ?t7 ?tx ?ty ?tv ?tz ?m1 ?m2 ?p1 ?p2⟩)
    case g1 => k_allIn
    case p1 => omega
    case p2 => omega
  · have hkl := hk1.symm
    k_steps
    refine' hret _ _ _ _ (Fr.keep (by assumption)) (lie_of (by assumption) ?g1b) (.inr ⟨hk1, .mk ?St'b ?Vl'b t5 ?t6b ?t7b ?vxb ?vyb ?m1b ?m2b ?p1b ?p2b⟩)
    case g1b => k_allIn
    case p1b => omega
    case p2b => omega
theorem rput_spec (w : World) (RM dR St Vl : Nat) (t5 t6 t7 : Tok) (df2 : Value) (vs ws : List Value) (c : Int) (kn : Str) (S : List Int) (lo hi : Int) (ta tc tv : Tok) (n1 n2 : Nat) (hc0 : 500 ≤ c) (hc1 : c ≤ 600) (o4 : dR < RM) (o5 : RM < St) (o6 : RM < Vl) (hs : IntsAre vs S)
   (hlen : S.length ≤ 1000) (hsorted : ∀ (i j : Nat) (x y : Int), S[i]? = some x → S[j]? = some y → i ≤ j → x ≤ y) (hp1 : pl S (c - 1) = lo) (hp2 : pl S (c + 1) = hi) (hlo : 0 < lo) (hlo2 : lo ≤ 50) (hhi : 0 < hi) (hhi2 : hi ≤ 50) (tz ty : Tok) (y : Str)
   (hW1 : ws[(hi - 1 + 1 - 1).toNat]? = some (.str (Str.ofString "L") tz)) (hW2 : ws[(lo - 1 + 1 - 1).toNat]? = some (.str y ty)) (hk1 : ¬ Str.ofString "L" = kn) (hk2 : ¬ y = kn) (hlv : vs.length ≤ 300) (hlW : ws.length ≤ 300) :
  Spec w 805 240 [.ref RM, .int c ta, .int c tc, .str kn tv] [(RM, instObj 257 dR), (dR, rmD w t5 t6 t7 df2 (.ref St) (.ref Vl)), (St, listOf vs.toArray n1), (Vl, listOf ws.toArray n2)] (RputR w RM dR df2 c kn lo hi vs ws) :=
  spec_mono (rput_all w RM dR St Vl t5 t6 t7 df2 vs ws c kn S lo hi ta tc tv n1 n2 hc0 hc1 o4 o5 o6 hs hlen hsorted hp1 hp2 hlo hlo2 hhi hhi2 tz ty y hW1 hW2 (.inl ⟨hk1, hk2⟩) hlv hlW) fun v rel' h => h.elim (fun h => h.2) fun h => absurd h.1.symm hk1
theorem rputL_spec (w : World) (RM dR St Vl : Nat) (t5 t6 t7 : Tok) (df2 : Value) (vs ws : List Value) (c : Int) (S : List Int) (lo hi : Int) (ta tc tv : Tok) (n1 n2 : Nat) (hc0 : 500 ≤ c) (hc1 : c ≤ 600) (o4 : dR < RM) (o5 : RM < St) (o6 : RM < Vl) (hs : IntsAre vs S)
   (hlen : S.length ≤ 1000) (hsorted : ∀ (i j : Nat) (x y : Int), S[i]? = some x → S[j]? = some y → i ≤ j → x ≤ y) (hp1 : pl S (c - 1) = lo) (hp2 : pl S (c + 1) = hi) (hlo : 0 < lo) (hlo2 : lo ≤ 50) (hhi : 0 < hi) (hhi2 : hi ≤ 50) (tz ty : Tok) 
   (hW1 : ws[(hi - 1 + 1 - 1).toNat]? = some (.str (Str.ofString "L") tz)) (hW2 : ws[(lo - 1 + 1 - 1).toNat]? = some (.str (Str.ofString "L") ty)) (hlv : vs.length ≤ 300) (hlW : ws.length ≤ 300) :
  Spec w 805 240 [.ref RM, .int c ta, .int c tc, .str (Str.ofString "L") tv] [(RM, instObj 257 dR), (dR, rmD w t5 t6 t7 df2 (.ref St) (.ref Vl)), (St, listOf vs.toArray n1), (Vl, listOf ws.toArray n2)] (RputL w RM dR df2 lo hi vs ws) :=
  spec_mono (rput_all w RM dR St Vl t5 t6 t7 df2 vs ws c (Str.ofString "L") S lo hi ta tc tv n1 n2 hc0 hc1 o4 o5 o6 hs hlen hsorted hp1 hp2 hlo hlo2 hhi hhi2 tz ty (Str.ofString "L") hW1 hW2 (.inr ⟨rfl, rfl⟩) hlv hlW) fun v rel' h => h.elim (fun h => absurd rfl h.1) fun h => h.2
end
section
local macro_rules | `(tactic| walk_at "call builtin:list.pop") => `(tactic| (k_here; (with_reducible show wpAny _ _ (call (Value.builtin _) [Value.ref _, Value.int 0 _]) _ _ _); k_dflt (refine' my_pop0 (by k_asm) (by k_asm) (by k_upd) (by (rw [sizeLine_eq]; omega)) ?_); intro h' F' N'; (try dsimp only at N')))
local macro_rules | `(tactic| walk_at "eval ListComp") => `(tactic| (k_here; k_dflt (refine LCt.ListComp_T (F₀ := by k_asm) (by with_unfolding_all rfl) (by decide) (by rfl) (by decide) (by rfl) ?_)))
local macro_rules | `(tactic| walk_at "CompSrcT") => `(tactic| (k_here; refine Halt.out ?_))
local macro_rules | `(tactic| walk_at "compareOp NotIn str ref") => `(tactic| (k_here; k_dflt (first
  | refine kdg_notin (knd := PySem.strKind _ _) (by k_asm) (by k_mem) (by k_asm) (by k_asm) (strKind_is _ _ _ _) true (by rfl) ?_
  | refine kdg_notin (knd := PySem.strKind _ _) (by k_asm) (by k_mem) (by k_asm) (by k_asm) (strKind_is _ _ _ _) false (by rfl) ?_)))
section
local macro_rules | `(tactic| walk_at "getMethod ref") => `(tactic| (k_here; (with_reducible show wpAny _ _ (getMethod (Value.ref _) (Str.ofString "get") _) _ _ _); k_dflt (refine kdg_method (knd := PySem.strKind _ _) (by k_asm) (by k_mem) (by k_asm) ?_)))
local macro_rules | `(tactic| walk_at "call builtin:dict.get") => `(tactic| (k_here; k_dflt (refine kdg_get1 (knd := PySem.strKind _ _) (by k_asm) (by k_mem) (by k_asm) (by k_asm) (strKind_is _ _ _ _) (some _) (by assumption) ?_); (try dsimp only [Option.getD])))
theorem mapof_spec (w : World) (d : DP w) (vs ws : List Value) (tb : Tok) (n1 n2 : Nat) :
  Spec w 850 303 [.ref d.D, .str (Str.ofString "bc") tb] (d.rel vs ws n1 n2) (fun v rel' => rel' = d.rel vs ws n1 n2 ∧ v = .ref d.RM) := by
  have hM := d.hM
  have hlo := d.lo
  have o1 := d.o1
  have o2 := d.o2
  have o3 := d.o3
  have o4 := d.o4
  have o5 := d.o5
  have o6 := d.o6
  unfold Spec
  k_fill
  intro p loose mean mg mb outer base g s R B X T hsz st N hret
  refine' enter_defB [(Str.ofString "name", .str (Str.ofString "bc") tb), (Str.ofString "self", .ref d.D)] (K := hd.heap_1 w.params) B X T hsz st N ?k1 ?k2 ?k3 ?k4 ?k5 ?_ ?c1 ?c2 ?c3 ?c4
  case k1 => k_is
  case k2 => k_is
  case k3 => exact Nat.le_of_ble_eq_true rfl
  case k4 => exact BindsTo.of_eq rfl
  case k5 => exact locs rfl
  case c1 => exact rfl
  case c2 => exact rfl
  case c3 => exact rfl
  case c4 => decide
  intro L' h' tk0 F' N' B' X' T' l1
  try dsimp only [DP.rel] at N' l1
  try k_lt l1
  try dsimp only
  show wpAny _ _ _ _ _ _
  k_fold
  k_steps
  exact hret _ _ _ _ (Fr.keep (by assumption)) (lie_of (by assumption) fun _ h => h) ⟨rfl, rfl⟩
inductive MapR (w : World) (D : Nat) : Value → List (Addr × Obj) → Prop
  | mk (d : DP w) (t0 t1 : Tok) (n1 n2 : Nat) : d.D = D → MapR w D (.ref d.RM) (d.rel [.int 0 t0] [.str (Str.ofString "L") t1] n1 n2)
theorem mapof0_spec (w : World) (D dD DF M : Nat) (oM oF : Obj) (t1 t2 t3 t4 tb : Tok) (pr wo : Value) (hM : oM.IsDictOf (PySem.strKind PySem.Challenge.rw_hb0008_01.row.prog w) []) (hlo : ((M : Addr) == sysModules) = false)
   (hF : DefT PySem.Challenge.rw_hb0008_01.row.prog w oF 100) (hlF : ((DF : Addr) == sysModules) = false) (o1 : dD < D) (o2 : D < M) (o3 : NE DF D ∧ NE DF dD ∧ NE DF M) :
  Spec w 850 303 [.ref D, .str (Str.ofString "bc") tb] [(D, instObj 306 dD), (dD, datD w t1 t2 t3 t4 (.ref DF) (.ref M) pr wo), (M, oM), (DF, oF)] (MapR w D) := by
  obtain ⟨o4, o5, o6⟩ := o3
  obtain ⟨kvs, tF, hF1, hF2, hF3⟩ := hF
  unfold Spec
  k_fill
  intro p loose mean mg mb outer base g s R B X T hsz st N hret
  refine' enter_defB [(Str.ofString "name", .str (Str.ofString "bc") tb), (Str.ofString "self", .ref D)] (K := hd.heap_1 w.params) B X T hsz st N ?k1 ?k2 ?k3 ?k4 ?k5 ?_ ?c1 ?c2 ?c3 ?c4
  case k1 => k_is
  case k2 => k_is
  case k3 => exact Nat.le_of_ble_eq_true rfl
  case k4 => exact BindsTo.of_eq rfl
  case k5 => exact locs rfl
  case c1 => exact rfl
  case c2 => exact rfl
  case c3 => exact rfl
  case c4 => decide
  intro L' h' tk0 F' N' B' X' T' l1
  try dsimp only [DP.rel] at N' l1
  try k_lt l1
  try dsimp only
  show wpAny _ _ _ _ _ _
  k_fold
  k_steps
  refine' hret _ _ _ _ (Fr.keep (by assumption)) (lie_of (by assumption) ?g1) (.mk (DP.mk D dD M ?RM ?dR ?St ?Vl ?oM t1 t2 t3 t4 ?t5 ?t6 ?t7 (.ref DF) pr wo ?df2 ?hM hlo o1 ?o2 ?o3 ?o4 ?o5 ?o6) ?ta ?tb ?n1 ?n2 rfl)
  case g1 => dsimp only [DP.rel]; k_allIn
  all_goals first | assumption | omega
end
section
local macro_rules | `(tactic| walk_at "call ref") => `(tactic| (k_here; (with_reducible show wpAny _ _ (call (Value.ref 303) _) _ _ _); k_dflt (refine' use_rva (mapof_spec _ _ _ _ _ _ _) ?_ (hrel := by (dsimp only [DP.rel]; k_allIn))); intro h' tk' F' N'))
inductive PutR (w : World) (D : Nat) (c : Int) (kn : Str) (lo hi : Int) (vs ws : List Value) : Value → List (Addr × Obj) → Prop
  | mk (d : DP w) (tx ty tv tz : Tok) (n1 n2 : Nat) : d.D = D → PutR w D c kn lo hi vs ws .none
     (d.rel (kms_pick vs none (some (lo - 1 + 1)) ++ [Value.int c tx, Value.int (c + 1) ty] ++ kms_pick vs (some (hi - 1 + 1)) none) (kms_pick ws none (some (lo - 1 + 1)) ++ [Value.str kn tv, Value.str (Str.ofString "L") tz] ++ kms_pick ws (some (hi - 1 + 1)) none) n1 n2)
theorem dp_turn {w : World} {g h : Heap} {L : Addr} {news : List (Addr × Obj)} (d : DP w) (vs ws vs' ws' : List Value) (n1 n2 n1' n2' : Nat) (St Vl : Nat) (t5 t6 t7 : Tok) (p1 : d.RM < St) (p2 : d.RM < Vl) (hin : ∀ q ∈ d.rel vs ws n1 n2, q ∈ news)
    (N : ∀ nn : List (Addr × Obj), (∀ q ∈ nn, q ∈ [(d.RM, instObj 257 d.dR), (d.dR, rmD w t5 t6 t7 d.df2 (.ref St) (.ref Vl)), (St, listOf vs'.toArray n1'), (Vl, listOf ws'.toArray n2')] ∨ (q ∈ news ∧ ∀ r ∈ [(d.RM, instObj 257 d.dR), (d.dR, rmD w d.t5 d.t6 d.t7 d.df2 (.ref d.St) (.ref d.Vl)), (d.St, listOf vs.toArray n1), (d.Vl, listOf ws.toArray n2)], q.1 ≠ r.1)) → News g L h nn) :
    News g L h ((d.upd St Vl t5 t6 t7 p1 p2).rel vs' ws' n1' n2') := by
  have o1 := d.o1
  have o2 := d.o2
  have o3 := d.o3
  have o4 := d.o4
  have o5 := d.o5
  have o6 := d.o6
  refine N _ ?_
  dsimp only [DP.rel, DP.upd]
  have far : ∀ x : Nat, x < d.dR → ∀ r ∈ [(d.RM, instObj 257 d.dR), (d.dR, rmD w d.t5 d.t6 d.t7 d.df2 (.ref d.St) (.ref d.Vl)), (d.St, listOf vs.toArray n1), (d.Vl, listOf ws.toArray n2)], x ≠ r.1 := by
    intro x hx
    refine fa_cons (Nat.ne_of_lt ?_) (fa_cons (Nat.ne_of_lt ?_) (fa_cons (Nat.ne_of_lt ?_) (List.forall_mem_singleton.mpr (Nat.ne_of_lt ?_)))) <;> dsimp only <;> omega
  refine fa_cons (.inr ⟨hin _ (.head _), far _ (by omega)⟩) (fa_cons (.inr ⟨hin _ (.tail _ (.head _)), far _ (by omega)⟩) (fa_cons (.inr ⟨hin _ (.tail _ (.tail _ (.head _))), far _ (by omega)⟩) (fun q hq => .inl hq)))
theorem putK_spec (w : World) (d : DP w) (vs ws : List Value) (c : Int) (kn : Str) (S : List Int) (lo hi : Int) (ta tc tv tb : Tok) (n1 n2 : Nat) (hc0 : 500 ≤ c) (hc1 : c ≤ 600) (hs : IntsAre vs S)
   (hlen : S.length ≤ 1000) (hsorted : ∀ (i j : Nat) (x y : Int), S[i]? = some x → S[j]? = some y → i ≤ j → x ≤ y) (hp1 : pl S (c - 1) = lo) (hp2 : pl S (c + 1) = hi) (hlo : 0 < lo) (hlo2 : lo ≤ 50) (hhi : 0 < hi) (hhi2 : hi ≤ 50) (tz ty : Tok) (y : Str)
   (hW1 : ws[(hi - 1 + 1 - 1).toNat]? = some (.str (Str.ofString "L") tz)) (hW2 : ws[(lo - 1 + 1 - 1).toNat]? = some (.str y ty)) (hk1 : ¬ Str.ofString "L" = kn) (hk2 : ¬ y = kn) (hlv : vs.length ≤ 300) (hlW : ws.length ≤ 300) :
  Spec w 800 289 [.ref d.D, .str (Str.ofString "bc") tb, .int c ta, .int c tc, .str kn tv] (d.rel vs ws n1 n2) (PutR w d.D c kn lo hi vs ws) := by
  have o4 := d.o4
  have o5 := d.o5
  have o6 := d.o6
  unfold Spec
  k_fill
  intro p loose mean mg mb outer base g s R B X T hsz st N hret
  refine' enter_defB [(Str.ofString "value", .str kn tv), (Str.ofString "last", .int c tc), (Str.ofString "first", .int c ta), (Str.ofString "name", .str (Str.ofString "bc") tb), (Str.ofString "self", .ref d.D)] (K := hd.heap_1 w.params) B X T hsz st N ?k1 ?k2 ?k3 ?k4 ?k5 ?_ ?c1 ?c2 ?c3 ?c4
  case k1 => k_is
  case k2 => k_is
  case k3 => exact Nat.le_of_ble_eq_true rfl
  case k4 => exact BindsTo.of_eq rfl
  case k5 => exact locs rfl
  case c1 => exact rfl
  case c2 => exact rfl
  case c3 => exact rfl
  case c4 => decide
  intro L' h' tk0 F' N' B' X' T' l1
  try dsimp only [DP.rel] at N' l1
  try k_lt l1
  try dsimp only
  show wpAny _ _ _ _ _ _
  try k_fold
  k_steps
  refine Halt.mk ?_
  refine' use_call ?B ?F ?X ?N ?T (rput_spec w d.RM d.dR d.St d.Vl d.t5 d.t6 d.t7 d.df2 vs ws c kn S lo hi ta tc tv n1 n2 hc0 hc1 o4 o5 o6 hs hlen hsorted hp1 hp2 hlo hlo2 hhi hhi2 tz ty y hW1 hW2 hk1 hk2 hlv hlW) ?hA ?hf ?hke ?hh ?hg ?hd ?hu ?hrel ?_
  case hA => exact rfl
  case hf => exact rfl
  case hke => exact rfl
  case B => k_asm
  case F => k_asm
  case X => k_asm
  case N => k_asm
  case T => k_asm
  case hh => exact rfl
  case hg => exact rfl
  case hd => exact Nat.le_of_ble_eq_true rfl
  case hu => exact Nat.le_of_ble_eq_true rfl
  case hrel => k_allIn
  intro v' h' tk' rel' F' N' D' hR
  clear D'
  revert N'
  induction hR with
  | mk St' Vl' t5' t6' t7' tx ty tv tz m1 m2 p1 p2 =>
  intro N'
  have N2 := dp_turn d vs ws _ _ n1 n2 m1 m2 St' Vl' t5' t6' t7' p1 p2 (by dsimp only [DP.rel]; k_allIn) N'
  clear N'
  k_steps
  refine' hret _ _ _ _ (Fr.keep (by assumption)) (lie_of N2 fun _ h => h) (.mk (d.upd St' Vl' t5' t6' t7' p1 p2) tx ty tv tz m1 m2 (DP.upd_D ..))
local macro_rules | `(tactic| walk_at "call ref") => `(tactic| (k_here; (with_reducible show wpAny _ _ (call (Value.ref 303) _) _ _ _); refine Halt.out ?_))
inductive Put0R (w : World) (D : Nat) : Value → List (Addr × Obj) → Prop
  | mk (d : DP w) (t0 t1 : Tok) (n1 n2 : Nat) : d.D = D → Put0R w D .none (d.rel [.int 0 t0] [.str (Str.ofString "L") t1] n1 n2)
theorem put0_spec (w : World) (D dD DF M : Nat) (oM oF : Obj) (t1 t2 t3 t4 tb ta tc tv : Tok) (pr wo : Value) (c : Int) (hM : oM.IsDictOf (PySem.strKind PySem.Challenge.rw_hb0008_01.row.prog w) []) (hlo : ((M : Addr) == sysModules) = false)
   (hF : DefT PySem.Challenge.rw_hb0008_01.row.prog w oF 100) (hlF : ((DF : Addr) == sysModules) = false) (o1 : dD < D) (o2 : D < M) (o3 : NE DF D ∧ NE DF dD ∧ NE DF M) (hc : c = 500) :
  Spec w 800 289 [.ref D, .str (Str.ofString "bc") tb, .int c ta, .int c tc, .str (Str.ofString "L") tv] [(D, instObj 306 dD), (dD, datD w t1 t2 t3 t4 (.ref DF) (.ref M) pr wo), (M, oM), (DF, oF)] (Put0R w D) := by
  have hp1 : pl [0] (c - 1) = 1 := by subst hc; rfl
  have hp2 : pl [0] (c + 1) = 1 := by subst hc; rfl
  have hc0 : 500 ≤ c := by omega
  have hc1 : c ≤ 600 := by omega
  unfold Spec
  k_fill
  intro p loose mean mg mb outer base g s R B X T hsz st N hret
  refine' enter_defB [(Str.ofString "value", .str (Str.ofString "L") tv), (Str.ofString "last", .int c tc), (Str.ofString "first", .int c ta), (Str.ofString "name", .str (Str.ofString "bc") tb), (Str.ofString "self", .ref D)] (K := hd.heap_1 w.params) B X T hsz st N ?k1 ?k2 ?k3 ?k4 ?k5 ?_ ?c1 ?c2 ?c3 ?c4
  case k1 => k_is
  case k2 => k_is
  case k3 => exact Nat.le_of_ble_eq_true rfl
  case k4 => exact BindsTo.of_eq rfl
  case k5 => exact locs rfl
  case c1 => exact rfl
  case c2 => exact rfl
  case c3 => exact rfl
  case c4 => decide
  intro L' h' tk0 F' N' B' X' T' l1
  try k_lt l1
  try dsimp only
  show wpAny _ _ _ _ _ _
  try k_fold
  k_steps
  refine Halt.mk ?_
  refine' use_call ?B ?F ?X ?N ?T (mapof0_spec w D dD DF M oM oF t1 t2 t3 t4 tb pr wo hM hlo hF hlF o1 o2 o3) ?hA ?hf ?hke ?hh ?hg ?hd ?hu ?hrel ?_
  case hA => exact rfl
  case hf => exact rfl
  case hke => exact rfl
  case B => k_asm
  case F => k_asm
  case X => k_asm
  case N => k_asm
  case T => k_asm
  case hh => exact rfl
  case hg => exact rfl
  case hd => exact Nat.le_of_ble_eq_true rfl
  case hu => exact Nat.le_of_ble_eq_true rfl
  case hrel => k_allIn
  intro v' h' tk' rel' F' N' D' hR
  clear D'
  revert N'
  induction hR with
  | mk d x0 x1 n1 n2 eD =>
  intro N'
  have N1 : News g L' h' (d.rel [.int 0 x0] [.str (Str.ofString "L") x1] n1 n2) := N' _ fun q hq => .inl hq
  clear N'
  subst eD
  have o4 := d.o4
  have o5 := d.o5
  have o6 := d.o6
  dsimp only [DP.rel] at N1
  k_steps
  refine Halt.mk ?_
  refine' use_call ?Bb ?Fb ?Xb ?Nb ?Tb (rputL_spec w d.RM d.dR d.St d.Vl d.t5 d.t6 d.t7 d.df2 [.int 0 x0] [.str (Str.ofString "L") x1] c [0] 1 1 ta tc tv n1 n2 hc0 hc1 o4 o5 o6 (.cons _ _ .nil) (by decide) (sorted_of (by decide)) hp1 hp2 (by decide) (by decide) (by decide) (by decide) x1 x1 rfl rfl (Nat.le_of_ble_eq_true rfl) (Nat.le_of_ble_eq_true rfl)) ?hAb ?hfb ?hkeb ?hhb ?hgb ?hdb ?hub ?hrelb ?_
  case hAb => exact rfl
  case hfb => exact rfl
  case hkeb => exact rfl
  case Bb => k_asm
  case Fb => k_asm
  case Xb => k_asm
  case Nb => k_asm
  case Tb => k_asm
  case hhb => exact rfl
  case hgb => exact rfl
  case hdb => exact Nat.le_of_ble_eq_true rfl
  case hub => exact Nat.le_of_ble_eq_true rfl
  case hrelb => k_allIn
  intro v' h' tk' rel' F' N' D' hR
  clear D'
  revert N'
  induction hR with
  | mk St' Vl' t5' t6' t7' vx vy m1 m2 p1 p2 =>
  intro N'
  have N2 := dp_turn d [.int 0 x0] [.str (Str.ofString "L") x1] _ _ n1 n2 m1 m2 St' Vl' t5' t6' t7' p1 p2 (by dsimp only [DP.rel]; k_allIn) N'
  clear N'
  k_steps
  refine' hret _ _ _ _ (Fr.keep (by assumption)) (lie_of N2 fun _ h => h) (Put0R.mk (d.upd St' Vl' t5' t6' t7' p1 p2) x0 x1 m1 m2 (DP.upd_D ..))
end
section
local macro_rules | `(tactic| walk_at "exec For Name Tuple cons nil") => `(tactic| (k_here; refine wpAny_For ?_ ?hs; (case hs => intro _; with_unfolding_all rfl)))
local macro_rules | `(tactic| walk_at "pyIter ref") => `(tactic| (k_here; k_dflt (refine' my_iter_tuple (by k_asm) (by k_asm) (by exact ⟨_, (News.get (by k_asm) (by k_mem)), rfl, _, rfl⟩) ?_; k_whole); intro h' it' F' N' hit' hl' o2' o3' l1' n2'; (have l0' := l1'); (try k_lt l1')))
local macro_rules | `(tactic| walk_at "Exists") => `(tactic| (k_here; refine made_def (n := 8) (by k_asm) (by first | k_asm | exact News.nil) (Top.nolimit (by k_asm)) (by rfl) (of_decide_eq_true (by rfl)) (by rfl) (Nat.le_of_ble_eq_true (by rfl)) ?_; intro h' o' F' N' l1 lo' hd'; (refine name_of lo' fun D' eD => ?_); (simp only [eD] at N' lo' l1 ⊢); clear eD; (try k_lt l1)))
local macro_rules | `(tactic| walk_at "setItem ref str") => `(tactic| (k_here; k_dflt (refine' DefT.set (by k_asm) (by k_asm) (by k_updF) (by k_asm) (by (first | assumption | decide)) (by omega) ?_); intro h' o' F' N' hd'; (try dsimp only at N')))
inductive DefJ (w : World) (T DF : Nat) (oT : Obj) (n i : Nat) (m : Str → Option Value) : List (Addr × Obj) → Prop
  | mk (hm : ∀ q ∈ [(Str.ofString "found", Value.ref DF)], m q.1 = some q.2) (o : Obj) : DefT PySem.Challenge.rw_hb0008_01.row.prog w o (n + i) → DefJ w T DF oT n i m [(T, oT), (DF, o)]
theorem hide_obj {P : Prop} {g h : Heap} {L a : Addr} {o : Obj} {r : List (Addr × Obj)} (N : News g L h ((a, o) :: r)) (k : ∀ o' : Obj, o = o' → News g L h ((a, o') :: r) → P) : P := k o rfl N
inductive KeyAt : Value → Prop
  | mk (x : Str) (t : Tok) : x ≠ Str.ofString "bc" → KeyAt (.str x t)
theorem keys_at' {vs : List Value} (h : vs.all isKey = true) {i : Nat} {v : Value} (e : vs.toArray[i]? = some v) : KeyAt v := by
  obtain ⟨x, t, rfl, hx⟩ := keys_at h e
  exact .mk x t hx
inductive DefR (w : World) : Value → List (Addr × Obj) → Prop
  | mk (DF : Nat) (oF : Obj) : DefT PySem.Challenge.rw_hb0008_01.row.prog w oF 100 → ((DF : Addr) == sysModules) = false → DefR w (.ref DF) [(DF, oF)]
theorem DefT.less {p : Program} {w : World} {o : Obj} {n n' : Nat} (h : DefT p w o n) (e : n ≤ n') : DefT p w o n' := by
  obtain ⟨kvs, t, a, b, c⟩ := h
  exact ⟨kvs, t, a, b, by omega⟩
theorem defaults_spec (w : World) : Spec w 900 268 [] [] (DefR w) := by
  unfold Spec
  k_fill
  intro p loose mean mg mb outer base g s R B X T hsz st N hret
  refine' enter_defB [] (K := hd.heap_1 w.params) B X T hsz st N ?k1 ?k2 ?k3 ?k4 ?k5 ?_ ?c1 ?c2 ?c3 ?c4
  case k1 => k_is
  case k2 => k_is
  case k3 => exact Nat.le_of_ble_eq_true rfl
  case k4 => exact BindsTo.of_eq rfl
  case k5 => exact locs rfl
  case c1 => exact rfl
  case c2 => exact rfl
  case c3 => exact rfl
  case c4 => decide
  intro L' h' tk0 F' N' B' X' T' l1
  try dsimp only [DT.rel] at N' l1
  try k_lt l1
  try dsimp only
  show wpAny _ _ _ _ _ _
  k_fold
  k_steps
  rename_i DF _ _ _ T8 _ _ _ _ _ _ _ _ _ _ _ _ _ _ _
  rename News g L' _ ((T8, _) :: _) => NT
  refine hide_obj NT fun oT e3 NN => ?_
  clear NT
  rename (∀ p : Addr × Obj, p ∈ _ → @LT.lt Nat _ p.1 _) => l0x
  rename DefT _ _ _ _ => hdT
  refine for_tuple (m := _) (adr := [DF, T8]) (J := DefJ w T8 DF oT 8) (by rfl) (by assumption) NN (by assumption) (by assumption) (by assumption) (by assumption) (by assumption) ?_ ?_ (by rfl) (by rfl) ?_ (.mk (by kst_all) _ hdT) ?_ ?_
  · exact fa_cons (l0x (DF, _) (by k_mem)) (List.forall_mem_singleton.mpr (l0x (T8, _) (by k_mem)))
  · exact fa_cons (show @LT.lt Nat _ T8 _ from l0x (T8, _) (by k_mem)) (List.forall_mem_singleton.mpr (l0x (DF, _) (by k_mem)))
  · intro i h' m' news' F N hJ
    revert N
    induction hJ
    intro N
    exact ⟨_, (N _ (.head _)).1, by rw [← e3], _, by rw [← e3]⟩
  · clear l0x NN hdT
    intro i v m₁ news₁ h tk own hv hJ off1 off2 F₁ N₁
    have hil := (Array.getElem?_eq_some_iff.mp hv).1
    have hkA := keys_at' (by simp only [List.all_cons, List.all_nil, isKey]; decide +kernel) hv
    clear hv
    induction hkA with
    | mk x t hx =>
    revert off2 N₁
    induction hJ with
    | mk hm o hd =>
    intro off2 N₁
    rw [← kst_self hm] at F₁
    simp only [List.cons_append, List.nil_append] at N₁
    have hi100 : i < 20 := Nat.lt_of_lt_of_le hil (Nat.le_of_ble_eq_true rfl)
    dsimp only
    try k_fold
    k_steps
    refine' TurnEnd.next (by assumption) (by assumption) ?g1 ?g2 ?g3 (.mk (by kst_all) _ (by show DefT _ _ _ (8 + i + 1); assumption))
    case g1 => k_allIn
    case g2 => intro p hp; k_ownIn
    case g3 => exact off2
  · clear l0x NN hdT
    intro h' tk m' news' F₁ N₁ hJ
    revert N₁
    induction hJ with
    | mk hm o hd =>
    intro N₁
    have hd2 : DefT PySem.Challenge.rw_hb0008_01.row.prog w o 11 := hd
    clear hd e3
    rw [← kst_self hm] at F₁
    have N2 := kst_newsOf (l' := [(DF, o)]) N₁ (by k_allIn)
    clear N₁
    k_steps
    rename_i T11 _ _ _ _ _ _ _ _ _ _ _ _ _ _ _
    rename News g L' _ ((T11, _) :: _) => NT
    refine hide_obj NT fun oT e3 NN => ?_
    clear NT
    rename (∀ p : Addr × Obj, p ∈ _ → @LT.lt Nat _ p.1 _) => l0x
    rename DefT _ _ _ _ => hdT
    refine for_tuple (m := _) (adr := [DF, T11]) (J := DefJ w T11 DF oT 11) (by rfl) (by assumption) NN (by assumption) (by assumption) (by assumption) (by assumption) (by assumption) ?_ ?_ (by rfl) (by rfl) ?_ (.mk (by kst_all) _ hdT) ?_ ?_
    · exact fa_cons (l0x (DF, _) (by k_mem)) (List.forall_mem_singleton.mpr (l0x (T11, _) (by k_mem)))
    · exact fa_cons (show @LT.lt Nat _ T11 _ from l0x (T11, _) (by k_mem)) (List.forall_mem_singleton.mpr (l0x (DF, _) (by k_mem)))
    · intro i h' m' news' F N hJ
      revert N
      induction hJ
      intro N
      exact ⟨_, (N _ (.head _)).1, by rw [← e3], _, by rw [← e3]⟩
    · clear l0x NN hdT
      intro i v m₁ news₁ h tk own hv hJ off1 off2 F₁ N₁
      have hil := (Array.getElem?_eq_some_iff.mp hv).1
      have hkA := keys_at' (by simp only [List.all_cons, List.all_nil, isKey]; decide +kernel) hv
      clear hv
      induction hkA with
      | mk x t hx =>
      revert off2 N₁
      induction hJ with
      | mk hm o hd =>
      intro off2 N₁
      rw [← kst_self hm] at F₁
      simp only [List.cons_append, List.nil_append] at N₁
      have hi100 : i < 20 := Nat.lt_of_lt_of_le hil (Nat.le_of_ble_eq_true rfl)
      dsimp only
      try k_fold
      k_steps
      refine' TurnEnd.next (by assumption) (by assumption) ?g1 ?g2 ?g3 (.mk (by kst_all) _ (by show DefT _ _ _ (11 + i + 1); assumption))
      case g1 => k_allIn
      case g2 => intro p hp; k_ownIn
      case g3 => exact off2
    · clear l0x NN hdT
      intro h' tk m' news' F₁ N₁ hJ
      revert N₁
      induction hJ with
      | mk hm o hd =>
      intro N₁
      have hd2 : DefT PySem.Challenge.rw_hb0008_01.row.prog w o 24 := hd
      clear hd e3
      rw [← kst_self hm] at F₁
      have N2 := kst_newsOf (l' := [(DF, o)]) N₁ (by k_allIn)
      clear N₁
      k_steps
      rename_i T24 _ _ _ _ _ _ _ _ _ _ _ _ _ _ _
      rename News g L' _ ((T24, _) :: _) => NT
      refine hide_obj NT fun oT e3 NN => ?_
      clear NT
      rename (∀ p : Addr × Obj, p ∈ _ → @LT.lt Nat _ p.1 _) => l0x
      rename DefT _ _ _ _ => hdT
      refine for_tuple (m := _) (adr := [DF, T24]) (J := DefJ w T24 DF oT 24) (by rfl) (by assumption) NN (by assumption) (by assumption) (by assumption) (by assumption) (by assumption) ?_ ?_ (by rfl) (by rfl) ?_ (.mk (by kst_all) _ hdT) ?_ ?_
      · exact fa_cons (l0x (DF, _) (by k_mem)) (List.forall_mem_singleton.mpr (l0x (T24, _) (by k_mem)))
      · exact fa_cons (show @LT.lt Nat _ T24 _ from l0x (T24, _) (by k_mem)) (List.forall_mem_singleton.mpr (l0x (DF, _) (by k_mem)))
      · intro i h' m' news' F N hJ
        revert N
        induction hJ
        intro N
        exact ⟨_, (N _ (.head _)).1, by rw [← e3], _, by rw [← e3]⟩
      · clear l0x NN hdT
        intro i v m₁ news₁ h tk own hv hJ off1 off2 F₁ N₁
        have hil := (Array.getElem?_eq_some_iff.mp hv).1
        have hkA := keys_at' (by simp only [List.all_cons, List.all_nil, isKey]; decide +kernel) hv
        clear hv
        induction hkA with
        | mk x t hx =>
        revert off2 N₁
        induction hJ with
        | mk hm o hd =>
        intro off2 N₁
        rw [← kst_self hm] at F₁
        simp only [List.cons_append, List.nil_append] at N₁
        have hi100 : i < 20 := Nat.lt_of_lt_of_le hil (Nat.le_of_ble_eq_true rfl)
        dsimp only
        try k_fold
        k_steps
        refine' TurnEnd.next (by assumption) (by assumption) ?g1 ?g2 ?g3 (.mk (by kst_all) _ (by show DefT _ _ _ (24 + i + 1); assumption))
        case g1 => k_allIn
        case g2 => intro p hp; k_ownIn
        case g3 => exact off2
      · clear l0x NN hdT
        intro h' tk m' news' F₁ N₁ hJ
        revert N₁
        induction hJ with
        | mk hm o hd =>
        intro N₁
        have hd2 : DefT PySem.Challenge.rw_hb0008_01.row.prog w o 37 := hd
        clear hd e3
        rw [← kst_self hm] at F₁
        have N2 := kst_newsOf (l' := [(DF, o)]) N₁ (by k_allIn)
        clear N₁
        k_steps
        rename_i T37 _ _ _ _ _ _ _ _ _ _ _ _ _ _ _
        rename News g L' _ ((T37, _) :: _) => NT
        refine hide_obj NT fun oT e3 NN => ?_
        clear NT
        rename (∀ p : Addr × Obj, p ∈ _ → @LT.lt Nat _ p.1 _) => l0x
        rename DefT _ _ _ _ => hdT
        refine for_tuple (m := _) (adr := [DF, T37]) (J := DefJ w T37 DF oT 37) (by rfl) (by assumption) NN (by assumption) (by assumption) (by assumption) (by assumption) (by assumption) ?_ ?_ (by rfl) (by rfl) ?_ (.mk (by kst_all) _ hdT) ?_ ?_
        · exact fa_cons (l0x (DF, _) (by k_mem)) (List.forall_mem_singleton.mpr (l0x (T37, _) (by k_mem)))
        · exact fa_cons (show @LT.lt Nat _ T37 _ from l0x (T37, _) (by k_mem)) (List.forall_mem_singleton.mpr (l0x (DF, _) (by k_mem)))
        · intro i h' m' news' F N hJ
          revert N
          induction hJ
          intro N
          exact ⟨_, (N _ (.head _)).1, by rw [← e3], _, by rw [← e3]⟩
        · clear l0x NN hdT
          intro i v m₁ news₁ h tk own hv hJ off1 off2 F₁ N₁
          have hil := (Array.getElem?_eq_some_iff.mp hv).1
          have hkA := keys_at' (by simp only [List.all_cons, List.all_nil, isKey]; decide +kernel) hv
          clear hv
          induction hkA with
          | mk x t hx =>
          revert off2 N₁
          induction hJ with
          | mk hm o hd =>
          intro off2 N₁
          rw [← kst_self hm] at F₁
          simp only [List.cons_append, List.nil_append] at N₁
          have hi100 : i < 20 := Nat.lt_of_lt_of_le hil (Nat.le_of_ble_eq_true rfl)
          dsimp only
          try k_fold
          k_steps
          refine' TurnEnd.next (by assumption) (by assumption) ?g1 ?g2 ?g3 (.mk (by kst_all) _ (by show DefT _ _ _ (37 + i + 1); assumption))
          case g1 => k_allIn
          case g2 => intro p hp; k_ownIn
          case g3 => exact off2
        · clear l0x NN hdT
          intro h' tk m' news' F₁ N₁ hJ
          revert N₁
          induction hJ with
          | mk hm o hd =>
          intro N₁
          have hd2 : DefT PySem.Challenge.rw_hb0008_01.row.prog w o 41 := hd
          clear hd e3
          rw [← kst_self hm] at F₁
          have N2 := kst_newsOf (l' := [(DF, o)]) N₁ (by k_allIn)
          clear N₁
          k_steps
          rename DefT _ _ _ _ => hdT
          refine' hret _ _ _ _ (Fr.keep (by assumption)) (lie_of (by assumption) ?g1) (.mk DF _ ?hd (by assumption))
          case g1 => k_allIn
          case hd => exact DefT.less hdT (by decide)
end
section
/-- the deck's dict -/
abbrev DeckD (w : World) (oD : Obj) (LF : Nat) (mx : Int) (tm : Tok) : Prop := oD.IsDictOf (PySem.strKind PySem.Challenge.rw_hb0008_01.row.prog w) [(Str.ofString "left", .ref LF), (Str.ofString "mixed", .int mx tm)]
theorem draw_spec (w : World) (DK LF n : Nat) (oD : Obj) (mx many : Int) (tm ty : Tok) (vs : List Value) (ns : List Int) (hD : DeckD w oD LF mx tm) (hs : IntsAre vs ns) (hl : ns.length ≤ 20) (hn : ∀ x ∈ ns, 0 ≤ x) (hm : 0 ≤ mx) (hy : 0 < many) (hlt : LF < DK) :
  Spec w 800 323 [.ref DK, .int many ty] [(DK, oD), (LF, listOf vs.toArray n)]
   (fun v rel' => ∃ (r : Int) (t : Tok) (oD' : Obj) (mx' : Int) (tm' : Tok) (vs' : List Value) (ns' : List Int) (n' : Nat), v = .int r t ∧ 0 ≤ r ∧ r < many ∧ DeckD w oD' LF mx' tm' ∧ IntsAre vs' ns' ∧ ns'.length ≤ 20 ∧ (∀ x ∈ ns', 0 ≤ x) ∧ 0 ≤ mx' ∧ rel' = [(DK, oD'), (LF, listOf vs'.toArray n')]) := by
  have hD' : oD.IsDictOf (PySem.strKind PySem.Challenge.rw_hb0008_01.row.prog w) [(Str.ofString "left", .ref LF), (Str.ofString "mixed", .int mx tm)] := hD
  clear hD
  unfold Spec
  k_fill
  intro p loose mean mg mb outer base g s R B X T hsz st N hret
  refine' enter_defB [(Str.ofString "many", .int many ty), (Str.ofString "deck", .ref DK)] (K := hd.heap_1 w.params) B X T hsz st N ?k1 ?k2 ?k3 ?k4 ?k5 ?_ ?c1 ?c2 ?c3 ?c4
  case k1 => k_is
  case k2 => k_is
  case k3 => exact Nat.le_of_ble_eq_true rfl
  case k4 => exact BindsTo.of_eq rfl
  case k5 => exact locs rfl
  case c1 => exact rfl
  case c2 => exact rfl
  case c3 => exact rfl
  case c4 => decide
  intro L' h' tk0 F' N' B' X' T' l1
  try dsimp only [DT.rel] at N' l1
  try k_lt l1
  try dsimp only
  show wpAny _ _ _ _ _ _
  k_fold
  cases hs with
  | nil =>
    k_steps
    refine' hret _ _ _ _ (Fr.keep (by assumption)) (lie_of (by assumption) ?g1) ⟨_, _, _, _, _, _, _, _, rfl, Int.fmod_nonneg_of_pos _ hy, Int.fmod_lt_of_pos _ hy, by assumption, .nil, hl, hn, Int.fmod_nonneg_of_pos _ (by decide), rfl⟩
    case g1 => k_allIn
  | cons i t hs' =>
    have hvl := hs'.length
    rw [List.length_cons] at hl
    k_steps
    · refine' hret _ _ _ _ (Fr.keep (by assumption)) (lie_of (by assumption) ?g1) ⟨_, _, _, _, _, _, _, _, rfl, Int.fmod_nonneg_of_pos _ hy, Int.fmod_lt_of_pos _ hy, by assumption, .cons i t hs', by rw [List.length_cons]; exact hl, hn, Int.fmod_nonneg_of_pos _ (by decide), rfl⟩
      case g1 => k_allIn
    · refine' hret _ _ _ _ (Fr.keep (by assumption)) (lie_of (by assumption) ?g1) ⟨_, _, _, _, _, _, _, _, rfl, Int.fmod_nonneg_of_pos _ hy, Int.fmod_lt_of_pos _ hy, hD', hs', by omega, fun x hx => hn x (.tail _ hx), hm, rfl⟩
      case g1 => k_allIn
end
section
local macro_rules | `(tactic| walk_at "compareOp NotEq ref ref") => `(tactic| (k_here; (with_reducible show wpAny _ _ (compareOp CmpOp.NotEq (Value.ref _) (Value.ref _)) _ _ _); refine Halt.out ?_))
def lettersOf (ks : List Kd) : List Kd := ks.filter fun k => match k with
  | .L => true
  | .R => true
  | _ => false
def lbOf (ks : List Kd) : Wd → Int
  | .ltr => 0
  | .rtl => 1
  | .auto => match lettersOf ks with
    | .R :: _ => 1
    | _ => 0
theorem letters_take (ks : List Kd) (i : Nat) (k : Kd) (h : ks[i]? = some k) : lettersOf (ks.take (i + 1)) = lettersOf (ks.take i) ++ lettersOf [k] := by
  rw [List.take_add_one, h]
  exact List.filter_append _ _
theorem letters_mem {ks : List Kd} {k : Kd} {r : List Kd} (h : lettersOf ks = k :: r) : k = .L ∨ k = .R := by
  have : k ∈ lettersOf ks := by rw [h]; exact .head _
  have := (List.mem_filter.mp this).2
  cases k <;> first | exact .inl rfl | exact .inr rfl | cases this
theorem lbase_spec (w : World) (K n : Nat) (ws : List Value) (ks : List Kd) (wd : Wd) (tw : Tok) (hi : StrsAre ws (ks.map Kd.nm)) (hlen : ks.length ≤ 1000) :
  Spec w 800 328 [.ref K, .str wd.nm tw] [(K, listOf ws.toArray n)]
   (fun v rel' => rel' = [(K, listOf ws.toArray n)] ∧ ∃ t, v = .int (lbOf ks wd) t) := by
  have hwl : ws.length = ks.length := by have := hi.length; rwa [List.length_map] at this
  unfold Spec
  k_fill
  intro p loose mean mg mb outer base g s R B X T hsz st N hret
  refine' enter_defB [(Str.ofString "word", .str wd.nm tw), (Str.ofString "kinds", .ref K)] (K := hd.heap_1 w.params) B X T hsz st N ?k1 ?k2 ?k3 ?k4 ?k5 ?_ ?c1 ?c2 ?c3 ?c4
  case k1 => k_is
  case k2 => k_is
  case k3 => exact Nat.le_of_ble_eq_true rfl
  case k4 => exact BindsTo.of_eq rfl
  case k5 => exact locs rfl
  case c1 => exact rfl
  case c2 => exact rfl
  case c3 => exact rfl
  case c4 => decide
  intro L' h' tk0 F' N' B' X' T' l1
  try dsimp only [DT.rel] at N' l1
  try k_lt l1
  try dsimp only
  show wpAny _ _ _ _ _ _
  k_fold
  k_steps
  refine Halt.mk ?_
  refine LCt.CompSrcT.ledger (by rfl) (by assumption) (by assumption) (by k_mem) (by rw [List.size_toArray, sizeLine_eq]; omega) fun g' => comp_restT (J := fun i ys news => StrsAre ys ((lettersOf (ks.take i)).map Kd.nm) ∧ news = [(K, listOf ws.toArray n)]) ?_ ?_ ?_
  · exact ⟨.nil, rfl⟩
  · rintro i v ys news I oI C oC D m₂ h tk E' hi' hv ⟨hys, rfl⟩ hC hx F N off ne
    obtain ⟨k, tk', rfl, hk⟩ := kind_at' hi hv
    have hlt := letters_take ks i k hk
    cases k <;> dsimp only [Kd.nm] at hx
    all_goals
      show wpAny _ _ _ _ _ _
      k_fold
      k_steps
      refine LCg.CompEnd.intro (by assumption) (by assumption) [(K, listOf ws.toArray n)] (by k_allIn) off (.inr ⟨_, by k_mem, rfl, _, rfl⟩) ⟨?_, rfl⟩
      rw [hlt]
      first
      | (rw [List.map_append]; exact StrsAre.append' hys (.cons _ _ .nil))
      | (rw [show lettersOf [_] = [] from rfl, List.append_nil]; exact hys)
  · rintro ys news ⟨hys, rfl⟩ D h tk F N _
    rw [List.size_toArray, hwl, List.take_length] at hys
    cases wd <;> dsimp only [Wd.nm, lbOf] at F hret
    · generalize hle : lettersOf ks = le at hys hret
      cases le with
      | nil =>
        cases hys
        k_steps
        refine Halt.mk ?_
        refine my_ne_same (xs := []) (ys := []) (ds := []) (by assumption) (by k_mem) .nil (by k_mem) .nil (fun _ h => nomatch h) (by first | units_room | exact Nat.le_of_ble_eq_true rfl) ?_
        k_steps
        refine' hret _ _ _ _ (Fr.keep (by assumption)) (lie_of (by assumption) ?g1) ⟨rfl, _, rfl⟩
        case g1 => k_allIn
      | cons k r =>
        obtain ⟨t, ys', rfl, hr⟩ : ∃ t ys', ys = .str (Kd.nm k) t :: ys' ∧ StrsAre ys' (r.map Kd.nm) := by
          cases hys
          exact ⟨_, _, rfl, by assumption⟩
        rcases letters_mem hle with rfl | rfl
        · dsimp only [Kd.nm] at N
          k_steps
          refine Halt.mk ?_
          refine my_ne_other (xs := .str (Str.ofString "L") t :: ys') (ys := []) (ds := (Str.ofString "L" :: r.map Kd.nm).map Dat.str) (es := []) (by assumption) (by k_mem) (datAll_strs (.cons _ _ hr)) (by k_mem) .nil (ok_kinds (.L :: r)) (fun _ h => nomatch h) (fun h => nomatch h) (by first | units_room | exact Nat.le_of_ble_eq_true rfl) ?_
          k_steps
          refine' hret _ _ _ _ (Fr.keep (by assumption)) (lie_of (by assumption) ?g1) ⟨rfl, _, rfl⟩
          case g1 => k_allIn
        · dsimp only [Kd.nm] at N
          k_steps
          refine Halt.mk ?_
          refine my_ne_other (xs := .str (Str.ofString "R") t :: ys') (ys := []) (ds := (Str.ofString "R" :: r.map Kd.nm).map Dat.str) (es := []) (by assumption) (by k_mem) (datAll_strs (.cons _ _ hr)) (by k_mem) .nil (ok_kinds (.R :: r)) (fun _ h => nomatch h) (fun h => nomatch h) (by first | units_room | exact Nat.le_of_ble_eq_true rfl) ?_
          k_steps
          refine' hret _ _ _ _ (Fr.keep (by assumption)) (lie_of (by assumption) ?g1) ⟨rfl, _, rfl⟩
          case g1 => k_allIn
    · k_steps
      refine' hret _ _ _ _ (Fr.keep (by assumption)) (lie_of (by assumption) ?g1) ⟨rfl, _, congrArg (fun x => Value.int x _) (if_neg (by decide))⟩
      case g1 => k_allIn
    · k_steps
      refine' hret _ _ _ _ (Fr.keep (by assumption)) (lie_of (by assumption) ?g1) ⟨rfl, _, congrArg (fun x => Value.int x _) (if_pos (by decide))⟩
      case g1 => k_allIn
end
section
theorem explicit_spec3 (w : World) (K n : Nat) (ws : List Value) (ks : List Kd) (b : Int) (tb td : Tok) (hi : StrsAre ws (ks.map Kd.nm)) (hlen : ks.length ≤ 900) :
  Spec w 700 157 [.ref K, .int b tb, .int 125 td] [(K, listOf ws.toArray n)]
   (ExpR w K n ws ks b) := by
  unfold Spec
  k_fill
  exact explicit_spec w K n ws ks b tb td _ hi hlen (fun s fd oc od osl hl hK => by
    cases hl
    exact binds_K hK rfl (by k_is) rfl rfl rfl)
theorem explicit_spec2 (w : World) (K n : Nat) (ws : List Value) (ks : List Kd) (b : Int) (tb : Tok) (hi : StrsAre ws (ks.map Kd.nm)) (hlen : ks.length ≤ 900) :
  Spec w 700 157 [.ref K, .int b tb] [(K, listOf ws.toArray n)]
   (ExpR w K n ws ks b) := by
  unfold Spec
  k_fill
  exact explicit_spec w K n ws ks b tb 196 _ hi hlen (fun s fd oc od osl hl hK => by
    cases hl
    exact binds_K hK rfl (by k_is) rfl rfl rfl)
end
section
theorem name_lst {P : Prop} {g h : Heap} {L a : Addr} {vs : List Value} {n : Nat} {r : List (Addr × Obj)} (_N : News g L h ((a, listOf vs.toArray n) :: r)) (k : ∀ (a' : Nat) (vs' : List Value), a' = a → vs' = vs → P) : P := k a vs rfl rfl
abbrev paraD (w : World) (t1 t2 t3 t4 t5 t6 t7 : Tok) (b e : Value) (CX : Nat) (bs : Value) (K Lv Cl : Nat) : Obj := dictOf [ent w "begin" t1 b, ent w "end" t2 e, ent w "codes" t3 (.ref CX), ent w "base" t4 bs, ent w "kinds" t5 (.ref K), ent w "levels" t6 (.ref Lv), ent w "classes" t7 (.ref Cl)] 7
/-- a paragraph's objects -/
inductive ParaIs (w : World) (wd : Wd) : Nat → Nat → List Kd → List (Addr × Obj) → Prop
  | mk (A b : Nat) (ks : List Kd) (dA CX K Lv Cl nx nk nl nc : Nat) (t1 t2 t3 t4 t5 t6 t7 tb te tq : Tok) (cs ws lvs cls : List Value) : IntsAre cs (ks.map tx) → StrsAre ws (ks.map Kd.nm) → OptsAre lvs ((run (baseOf ks wd) ks).2.map (·.1)) → StrsAre cls ((run (baseOf ks wd) ks).2.map (·.2)) →
    ParaIs w wd A b ks [(A, instObj 188 dA), (dA, paraD w t1 t2 t3 t4 t5 t6 t7 (.int b tb) (.int ((b : Int) + ks.length) te) CX (.int (baseOf ks wd) tq) K Lv Cl), (CX, listOf cs.toArray nx), (K, listOf ws.toArray nk), (Lv, listOf lvs.toArray nl), (Cl, listOf cls.toArray nc)]
inductive PT (w : World) (wd : Wd) : List (Nat × List Kd) → List Value → List (Addr × Obj) → Prop
  | nil : PT w wd [] [] []
  | snoc {ps fs t b ks l} (A : Nat) : PT w wd ps fs t → ParaIs w wd A b ks l → PT w wd (ps ++ [(b, ks)]) (fs ++ [.ref A]) (l ++ t)
abbrev DT.adr {w : World} (d : DT w) : List Nat := [d.D, d.dD, d.M, d.RM, d.dR, d.St, d.Vl]
theorem of_mem {α : Type} {p : α → Prop} {l : List α} {q : α} (hq : q ∈ l) (h : ∀ q ∈ l, p q) : p q := h q hq
abbrev pars (f b : List Kd) : List (Nat × List Kd) := [(0, f ++ [.B]), (f.length + 1, b)]
inductive PaJ (w : World) (d : DT w) (TX n : Nat) (vs : List Value) (f b : List Kd) (wd : Wd) (tw td : Tok) (F0 : Nat) (tail0 : List (Addr × Obj)) (i : Nat) (m : Str → Option Value) : List (Addr × Obj) → Prop
  | mk (nF : Nat) (fs : List Value) (tail : List (Addr × Obj)) (hm : ∀ q ∈ [(Str.ofString "text", Value.ref TX), (Str.ofString "data", Value.ref d.D), (Str.ofString "word", .str wd.nm tw), (Str.ofString "depth", Value.int 125 td), (Str.ofString "found", Value.ref F0)], m q.1 = some q.2) : PT w wd ((pars f b).take i) fs tail → OwnOff (tail ++ tail0) (F0 :: TX :: d.adr) →
    PaJ w d TX n vs f b wd tw td F0 tail0 i m ((F0, listOf fs.toArray nF) :: (TX, listOf vs.toArray n) :: (d.rel ++ (tail ++ tail0)))
inductive ParasR (w : World) (wd : Wd) (f b : List Kd) (TX n : Nat) (vs : List Value) : Value → List (Addr × Obj) → Prop
  | mk (F0 nF : Nat) (fs : List Value) (tail : List (Addr × Obj)) : PT w wd [(0, f ++ [.B]), (f.length + 1, b)] fs tail → ParasR w wd f b TX n vs (.ref F0) ((F0, listOf fs.toArray nF) :: (TX, listOf vs.toArray n) :: tail)
/-- the pair of a turn -/
inductive PaT (f b : List Kd) (i : Nat) (tail0 : List (Addr × Obj)) : Value → Prop
  | mk (T b0 : Nat) (ks : List Kd) (ta tb : Tok) : (T, tupO [.int b0 ta, .int ((b0 : Int) + ks.length) tb]) ∈ tail0 → (pars f b)[i]? = some (b0, ks) → (((f ++ .B :: b).map tx).drop b0).take ks.length = ks.map tx → b0 + ks.length ≤ 900 → PaT f b i tail0 (.ref T)
abbrev tailO (f b : List Kd) (fd T1 T2 nf : Nat) (ta tb tc td : Tok) : List (Addr × Obj) := [(fd, listOf [Value.ref T1, Value.ref T2].toArray nf), (T1, tupO [Value.int 0 ta, Value.int (f.length + 1) tb]), (T2, tupO [Value.int (f.length + 1) tc, Value.int ((f ++ .B :: b).length : Nat) td])]
theorem pa_turn {f b : List Kd} {fd T1 T2 nf i : Nat} {ta tb tc td : Tok} {v : Value} (hlen : (f ++ .B :: b).length ≤ 900) (hv : [Value.ref T1, Value.ref T2].toArray[i]? = some v) : PaT f b i (tailO f b fd T1 T2 nf ta tb tc td) v := by
  have hlen2 : (f ++ .B :: b).length = f.length + (b.length + 1) := by rw [List.length_append, List.length_cons]
  rcases i with _ | _ | i
  · rw [show v = Value.ref T1 by simpa using hv.symm]
    refine .mk T1 0 (f ++ [.B]) ta tb ?_ rfl ?_ ?_
    · rw [show ((0 : Nat) : Int) + (f ++ [Kd.B]).length = f.length + 1 by simp]; exact .tail _ (.head _)
    · rw [List.drop_zero, ← List.map_take]; congr 1; rw [List.take_append, List.take_of_length_le (by simp), show (f ++ [Kd.B]).length - f.length = 1 by simp]; rfl
    · simp; omega
  · rw [show v = Value.ref T2 by simpa using hv.symm]
    refine .mk T2 (f.length + 1) b tc td ?_ rfl ?_ ?_
    · rw [show (((f.length + 1 : Nat) : Int) + b.length) = ((f ++ Kd.B :: b).length : Nat) by rw [hlen2]; omega]; exact .tail _ (.tail _ (.head _))
    · rw [← List.map_drop, ← List.map_take]; congr 1; rw [List.drop_append, List.drop_of_length_le (by omega), show f.length + 1 - f.length = 1 by omega]; simp
    · omega
  · simp at hv
theorem cut_ints {ks : List Kd} {f b : List Kd} {b0 : Nat} (hkx : (((f ++ Kd.B :: b).map tx).drop b0).take ks.length = ks.map tx) : List.take (min ((b0 : Int) + ks.length).toNat (List.map tx (f ++ Kd.B :: b)).length - (b0 : Int).toNat) (List.drop (b0 : Int).toNat (List.map tx (f ++ Kd.B :: b))) = ks.map tx := by
  rw [← hkx, Int.toNat_natCast, show ((b0 : Int) + ks.length).toNat = b0 + ks.length from rfl]
  have h1 := congrArg List.length hkx
  rw [List.length_take, List.length_drop, List.length_map, List.length_map] at h1
  rw [show min (b0 + ks.length) (List.map tx (f ++ Kd.B :: b)).length - b0 = ks.length by rw [List.length_map, ← Nat.sub_min_sub_right, Nat.add_sub_cancel_left]; exact h1]
theorem adr_rel {w : World} (d : DT w) : d.rel.map (·.1) = d.adr := rfl
theorem lt7 {w : World} {d : DT w} {x : Nat} (h : d.D < x ∧ d.dD < x ∧ d.M < x ∧ d.RM < x ∧ d.dR < x ∧ d.St < x ∧ d.Vl < x) : ∀ c ∈ d.adr, @LT.lt Nat _ c x :=
  fa_cons h.1 (fa_cons h.2.1 (fa_cons h.2.2.1 (fa_cons h.2.2.2.1 (fa_cons h.2.2.2.2.1 (fa_cons h.2.2.2.2.2.1 (List.forall_mem_singleton.mpr h.2.2.2.2.2.2))))))
/-- what lies below x -/
theorem lt9 {w : World} {d : DT w} {F0 TX x : Nat} {R : List (Addr × Obj)} (h : F0 < x ∧ TX < x ∧ d.D < x ∧ d.dD < x ∧ d.M < x ∧ d.RM < x ∧ d.dR < x ∧ d.St < x ∧ d.Vl < x ∧ AllLt x R) : (∀ c ∈ F0 :: TX :: d.adr, @LT.lt Nat _ c x) ∧ ∀ q ∈ R, @LT.lt Nat _ q.1 x :=
  ⟨fa_cons h.1 (fa_cons h.2.1 (fa_cons h.2.2.1 (fa_cons h.2.2.2.1 (fa_cons h.2.2.2.2.1 (fa_cons h.2.2.2.2.2.1 (fa_cons h.2.2.2.2.2.2.1 (fa_cons h.2.2.2.2.2.2.2.1 (List.forall_mem_singleton.mpr h.2.2.2.2.2.2.2.2.1)))))))), allLt_mem h.2.2.2.2.2.2.2.2.2⟩
theorem pa_off {w : World} {d : DT w} {F0 TX A dA CX K Lv Cl : Nat} {o1 o2 o3 o4 o5 o6 : Obj} (hA : dA < A) (l1 : ∀ c ∈ F0 :: TX :: d.adr, @LT.lt Nat _ c dA) (l2 : ∀ c ∈ F0 :: TX :: d.adr, @LT.lt Nat _ c CX) (l3 : ∀ c ∈ F0 :: TX :: d.adr, @Ne Nat K c) (l4 : ∀ c ∈ F0 :: TX :: d.adr, @Ne Nat Lv c ∧ @Ne Nat Cl c) :
    OwnOff [(A, o1), (dA, o2), (CX, o3), (K, o4), (Lv, o5), (Cl, o6)] (F0 :: TX :: d.adr) :=
  fa_cons (fun c hc => Nat.ne_of_gt (Nat.lt_trans (l1 c hc) hA)) (fa_cons (fun c hc => Nat.ne_of_gt (l1 c hc)) (fa_cons (fun c hc => Nat.ne_of_gt (l2 c hc)) (fa_cons (fun c hc => l3 c hc) (fa_cons (fun c hc => (l4 c hc).1) (List.forall_mem_singleton.mpr fun c hc => (l4 c hc).2)))))
theorem pa_own {A dA CX K Lv Cl q : Nat} {o1 o2 o3 o4 o5 o6 : Obj} (hA : dA < A) (l1 : @LT.lt Nat _ q dA) (l2 : @LT.lt Nat _ q CX) (l3 : @Ne Nat K q) (l4 : @Ne Nat Lv q) (l5 : @Ne Nat Cl q) : ∀ r ∈ ([(A, o1), (dA, o2), (CX, o3), (K, o4), (Lv, o5), (Cl, o6)] : List (Addr × Obj)), @Ne Nat q r.1 :=
  fa_cons (Nat.ne_of_lt (Nat.lt_trans l1 hA)) (fa_cons (Nat.ne_of_lt l1) (fa_cons (Nat.ne_of_lt l2) (fa_cons (Ne.symm l3) (fa_cons (Ne.symm l4) (List.forall_mem_singleton.mpr (Ne.symm l5))))))
theorem PT.len {w wd ps fs t} (h : PT w wd ps fs t) : fs.length = ps.length := by
  induction h with
  | nil => rfl
  | snoc A _ _ ih => simp [ih]
theorem paras_spec (w : World) (d : DT w) (TX n : Nat) (vs : List Value) (f b : List Kd) (wd : Wd) (tw td : Tok) (args : List Value) (hf : ∀ k ∈ f, k ≠ .B) (hs : ∀ k ∈ b, k ≠ .B) (hs0 : b ≠ []) (hi : IntsAre vs ((f ++ .B :: b).map tx)) (hlen : (f ++ .B :: b).length ≤ 900)
  (hTX : ∀ a ∈ [d.D, d.dD, d.M, d.RM, d.dR, d.St, d.Vl], NE a TX)
  (hb : ∀ s fd oc od osl, (hd.heap_1 w.params).lookup 200 = some ⟨oc, od, .func fd, osl⟩ → (hd.heap_1 w.params).In s.heap → BindsTo s fd ⟨args, []⟩ [(Str.ofString "text", Value.ref TX), (Str.ofString "data", Value.ref d.D), (Str.ofString "word", .str wd.nm tw), (Str.ofString "depth", Value.int 125 td)]) :
  Spec w 600 200 args ((TX, listOf vs.toArray n) :: d.rel)
   (ParasR w wd f b TX n vs) := by
  have hlen' : (f ++ .B :: b).length ≤ 1000 := by omega
  have hlen2 : (f ++ .B :: b).length = f.length + (b.length + 1) := by rw [List.length_append, List.length_cons]
  have hvl : vs.length = (f ++ .B :: b).length := by have := hi.length; rwa [List.length_map] at this
  unfold Spec
  k_fill
  intro p loose mean mg mb outer base g s R B X T hsz st N hret
  refine' enter_defB [(Str.ofString "depth", Value.int 125 td), (Str.ofString "word", .str wd.nm tw), (Str.ofString "data", Value.ref d.D), (Str.ofString "text", Value.ref TX)] (K := hd.heap_1 w.params) B X T hsz st N ?k1 ?k2 ?k3 ?k4 ?k5 ?_ ?c1 ?c2 ?c3 ?c4
  case k1 => k_is
  case k2 => k_is
  case k3 => exact Nat.le_of_ble_eq_true rfl
  case k4 => exact hb _ _ _ _ _ (by k_is) (X.keeps st)
  case k5 => exact locs rfl
  case c1 => exact rfl
  case c2 => exact rfl
  case c3 => exact rfl
  case c4 => decide
  intro L' h' tk0 F' N' B' X' T' l1
  try dsimp only [DT.rel] at N' l1
  k_lt l1
  try dsimp only
  show wpAny _ _ _ _ _ _
  k_fold
  k_steps
  rename_i F0 _ _ _ _ _
  have hF0 : @LT.lt Nat _ TX F0 := by omega
  have hF7 := lt7 (d := d) (x := F0) (‹TX < F0 ∧ _ ∧ _ ∧ _ ∧ _ ∧ _ ∧ _ ∧ _›).2
  refine Halt.mk ?_
  refine' use_call ?Ba ?Fa ?Xa ?Na ?Ta (para_spec w d TX n vs f b hf hs hs0 hi hlen') ?hAa ?hfa ?hkea ?hha ?hga ?hda ?hua ?hrela ?_
  case hAa => exact rfl
  case hfa => exact rfl
  case hkea => exact rfl
  case Ba => k_asm
  case Fa => k_asm
  case Xa => k_asm
  case Na => k_asm
  case Ta => k_asm
  case hha => exact rfl
  case hga => exact rfl
  case hda => exact Nat.le_of_ble_eq_true rfl
  case hua => exact Nat.le_of_ble_eq_true rfl
  case hrela => dsimp only [DT.rel]; k_allIn
  intro v' h' tk' rel' F' N' D' hR
  revert N' D'
  induction hR with
  | mk fd T1 T2 nf ta tb tc td' hfd o1 o2 =>
  intro N' D'
  have mF : ∀ r ∈ ((TX, listOf vs.toArray n) :: d.rel), ((F0, listOf [].toArray 0) : Addr × Obj).1 ≠ r.1 := by dsimp only [DT.rel]; k_all
  have DF := D' (F0, _) (by k_mem) mF
  have X1 : NE fd F0 ∧ NE T1 F0 ∧ NE T2 F0 := ⟨DF (fd, _) (by k_mem), DF (T1, _) (by k_mem), DF (T2, _) (by k_mem)⟩
  have N2 := N' ((F0, listOf [].toArray 0) :: (fd, listOf [Value.ref T1, Value.ref T2].toArray nf) :: (T1, tupO [Value.int 0 ta, Value.int (f.length + 1) tb]) :: (T2, tupO [Value.int (f.length + 1) tc, Value.int ((f ++ .B :: b).length : Nat) td']) :: (TX, listOf vs.toArray n) :: d.rel) (by
    refine fa_cons (.inr ⟨by k_mem, mF⟩) (fun q hq => .inl ?_)
    exact hq)
  clear N' D' DF mF
  have off0 : OwnOff (tailO f b fd T1 T2 nf ta tb tc td') (F0 :: TX :: d.adr) :=
    fa_cons (fa_cons X1.1 (fun c hc => Nat.ne_of_gt (hfd c hc))) (fa_cons (fa_cons X1.2.1 (fun c hc => Nat.ne_of_gt (Nat.lt_trans (hfd c hc) o1))) (List.forall_mem_singleton.mpr (fa_cons X1.2.2 (fun c hc => Nat.ne_of_gt (Nat.lt_trans (Nat.lt_trans (hfd c hc) o1) o2)))))
  simp only [List.forall_mem_cons, List.not_mem_nil, false_implies, implies_true, and_true] at hfd
  dsimp only [DT.rel] at N2
  k_steps
  have hT := fun i v hv => pa_turn (f := f) (b := b) (fd := fd) (T1 := T1) (T2 := T2) (nf := nf) (i := i) (ta := ta) (tb := tb) (tc := tc) (td := td') (v := v) hlen hv
  have m0 : (fd, listOf [Value.ref T1, Value.ref T2].toArray nf) ∈ tailO f b fd T1 T2 nf ta tb tc td' := .head _
  rename (∀ p : Addr × Obj, p ∈ _ → @LT.lt Nat _ p.1 _) => l0x
  refine with_sub (by assumption) (by assumption) (PaJ w d TX n vs f b wd tw td F0 (tailO f b fd T1 T2 nf ta tb tc td') 0) ?hJ0 fun l' hJ0 N0 sub0 => ?_
  case hJ0 =>
    refine' ⟨_, .mk _ _ _ (by kst_all) PT.nil (by rw [List.nil_append]; exact off0), ?mem⟩
    case mem =>
      simp only [DT.rel, List.cons_append, List.nil_append]
      k_allIn
  clear off0
  generalize tailO f b fd T1 T2 nf ta tb tc td' = tail0 at hT m0 hJ0
  refine for_gen (m := _) (adr := F0 :: TX :: d.adr) (J := PaJ w d TX n vs f b wd tw td F0 tail0) (by rfl) (by assumption) N0 (by assumption) (by assumption) (by assumption) (by assumption) (by assumption) ?_ ?_ ?_ ?_ hJ0 ?_ ?_
  · exact fa_cons (l0x (F0, _) (by k_mem)) (fa_cons (l0x (TX, _) (by k_mem)) (fa_cons (l0x (d.D, _) (by k_mem)) (fa_cons (l0x (d.dD, _) (by k_mem)) (fa_cons (l0x (d.M, _) (by k_mem)) (fa_cons (l0x (d.RM, _) (by k_mem)) (fa_cons (l0x (d.dR, _) (by k_mem)) (fa_cons (l0x (d.St, _) (by k_mem)) (List.forall_mem_singleton.mpr (l0x (d.Vl, _) (by k_mem))))))))))
  · exact fun q hq => l0x q (sub0 q hq)
  · intro i v hv
    cases hT i v hv with
    | mk T => exact ⟨T, rfl⟩
  · intro i h' m' news' F N hJ
    revert N
    induction hJ
    intro N
    exact News.isList N (by (repeat apply List.mem_cons_of_mem); exact List.mem_append_right _ (List.mem_append_right _ m0))
  · clear l0x hJ0 N0 sub0 m0 X1 hfd
    intro i v m₁ news₁ h tk own hv hJ off1 off2 F₁ N₁
    have hv' := hT i v hv
    clear hv
    induction hv' with
    | mk T b0 ks ta' tb' hTT hpi hkx hkl =>
    revert off2 N₁
    induction hJ with
    | mk nF fs tail hm hP oT =>
    intro off2 N₁
    clear hT
    obtain ⟨R, hR⟩ : ∃ R, R = tail ++ tail0 ++ own := ⟨_, rfl⟩
    have oR : OwnOff R (F0 :: TX :: d.adr) := hR ▸ ownOff_app oT off1
    have sT : ∀ q ∈ tail, q ∈ R := fun q hq => hR ▸ List.mem_append_left _ (List.mem_append_left _ hq)
    have sT0 : ∀ q ∈ tail0, q ∈ R := fun q hq => hR ▸ List.mem_append_left _ (List.mem_append_right _ hq)
    have sO : ∀ q ∈ own, q ∈ R := fun q hq => hR ▸ List.mem_append_right _ hq
    have nT : NE T F0 := NE.mk (oR _ (sT0 _ hTT) F0 (.head _))
    have N₂ := kst_newsOf (l' := (T, tupO [.int b0 ta', .int ((b0 : Int) + ks.length) tb']) :: (F0, listOf fs.toArray nF) :: (TX, listOf vs.toArray n) :: (d.rel ++ R)) N₁ (by
      refine sub_cons (?_) (sub_cons (.head _) (sub_cons (.tail _ (.head _)) (fun q hq => ?_)))
      · refine .tail _ (.tail _ (List.mem_append_left _ (List.mem_append_right _ (List.mem_append_right _ hTT))))
      · rcases List.mem_append.mp hq with hq | hq
        · exact .tail _ (.tail _ (List.mem_append_left _ (List.mem_append_left _ hq)))
        · rw [hR] at hq
          rcases List.mem_append.mp hq with hq | hq
          · exact .tail _ (.tail _ (List.mem_append_left _ (List.mem_append_right _ hq)))
          · exact .tail _ (.tail _ (List.mem_append_right _ hq)))
    clear N₁ hR
    dsimp only [DT.rel] at N₂
    simp only [List.cons_append, List.nil_append] at N₂
    rw [← kst_self hm] at F₁
    try k_fold
    k_steps
    refine Halt.mk ?_
    rename_i CX cs _ _ _ _ _ _ _ _
    rename IntsAre cs _ => hc0
    have hc : IntsAre cs (ks.map tx) := cut_ints hkx ▸ hc0
    clear hc0
    have hcl : ks.length ≤ 1000 := by omega
    have hcl' : ks.length ≤ 900 := by omega
    have hcv : cs.length = ks.length := by have := hc.length; rwa [List.length_map] at this
    have lC := lt9 (d := d) (R := R) ‹T < CX ∧ _ ∧ _ ∧ _ ∧ _ ∧ _ ∧ _ ∧ _ ∧ _ ∧ _ ∧ AllLt CX R›.2
    refine' use_call ?Bb ?Fb ?Xb ?Nb ?Tb (kinds_spec w d CX _ cs ks hc hcl) ?hAb ?hfb ?hkeb ?hhb ?hgb ?hdb ?hub ?hrelb ?_
    case hAb => exact rfl
    case hfb => exact rfl
    case hkeb => exact rfl
    case Bb => k_asm
    case Fb => k_asm
    case Xb => k_asm
    case Nb => k_asm
    case Tb => k_asm
    case hhb => exact rfl
    case hgb => exact rfl
    case hdb => exact Nat.le_of_ble_eq_true rfl
    case hub => exact Nat.le_of_ble_eq_true rfl
    case hrelb => dsimp only [DT.rel]; k_allIn
    intro v' h' tk' rel' F' N' D' hR'
    revert N' D'
    induction hR' with
    | mk K ws hKn hKs =>
    intro N' D'
    have toR : ∀ {x : Nat}, (∀ c ∈ (CX :: d.adr), @Ne Nat x c) → ∀ r ∈ ((CX, listOf cs.toArray 0) :: d.rel : List (Addr × Obj)), x ≠ r.1 := fun hx r hr => hx r.1 (List.mem_map_of_mem (f := (·.1)) hr)
    have mF : ∀ r ∈ ((CX, listOf cs.toArray 0) :: d.rel : List (Addr × Obj)), F0 ≠ r.1 := toR (fa_cons (Nat.ne_of_lt (lC.1 F0 (.head _))) (fun c hc => Nat.ne_of_gt (hF7 c hc)))
    have mX : ∀ r ∈ ((CX, listOf cs.toArray 0) :: d.rel : List (Addr × Obj)), TX ≠ r.1 := toR (fa_cons (Nat.ne_of_lt (lC.1 TX (.tail _ (.head _)))) (fun c hc => NE.out' (hTX c hc)))
    have mR : ∀ q ∈ R, ∀ r ∈ ((CX, listOf cs.toArray 0) :: d.rel : List (Addr × Obj)), q.1 ≠ r.1 := fun q hq => toR (fa_cons (Nat.ne_of_lt (lC.2 q hq)) (fun c hc => oR q hq c (.tail _ (.tail _ hc))))
    have dF := D' (F0, _) (.tail _ (by k_mem)) mF (K, _) (.head _)
    have dX := D' (TX, _) (.tail _ (by k_mem)) mX (K, _) (.head _)
    have dR : ∀ q ∈ R, @Ne Nat K q.1 := fun q hq => D' q (by (repeat apply List.mem_cons_of_mem); exact hq) (mR q hq) (K, _) (.head _)
    have N2 := N' ((K, listOf ws.toArray ws.length) :: (CX, listOf cs.toArray 0) :: (F0, listOf fs.toArray nF) :: (TX, listOf vs.toArray n) :: (d.rel ++ R)) (by
      refine fa_cons (.inl (.head _)) (fa_cons (.inl (.tail _ (.head _))) (fa_cons (.inr ⟨by k_mem, mF⟩) (fa_cons (.inr ⟨by k_mem, mX⟩) (fun q hq => ?_))))
      rcases List.mem_append.mp hq with hq | hq
      · exact .inl (.tail _ (.tail _ hq))
      · exact .inr ⟨by (repeat apply List.mem_cons_of_mem); exact hq, mR q hq⟩)
    clear N' D' mF mX mR toR hTT nT
    have lK : ∀ c ∈ F0 :: TX :: d.adr, @Ne Nat K c := fa_cons dF (fa_cons dX (fun c hc => Ne.symm (hKn c (.tail _ hc))))
    have eK : ∀ q ∈ ((F0, listOf fs.toArray nF) :: (TX, listOf vs.toArray n) :: (d.rel ++ R) : List (Addr × Obj)), @Ne Nat q.1 K := by
      refine fa_cons (Ne.symm dF) (fa_cons (Ne.symm dX) (fun q hq => ?_))
      rcases List.mem_append.mp hq with hq | hq
      · exact hKn q.1 (.tail _ (List.mem_map_of_mem (f := (·.1)) hq))
      · exact Ne.symm (dR q hq)
    have hKC : @Ne Nat CX K := hKn CX (.head _)
    simp only [List.forall_mem_cons, List.not_mem_nil, false_implies, implies_true, and_true] at hKn
    dsimp only [DT.rel] at N2
    simp only [List.cons_append, List.nil_append] at N2
    k_steps
    refine Halt.mk ?_
    refine' use_call ?Bc ?Fc ?Xc ?Nc ?Tc (explicit_spec3 w K _ ws ks (baseOf ks wd) _ _ hKs hcl') ?hAc ?hfc ?hkec ?hhc ?hgc ?hdc ?huc ?hrelc ?_
    case hAc => exact rfl
    case hfc => exact rfl
    case hkec => exact rfl
    case Bc => k_asm
    case Fc => k_asm
    case Xc => k_asm
    case Nc => k_asm
    case Tc => k_asm
    case hhc => exact rfl
    case hgc => exact rfl
    case hdc => exact Nat.le_of_ble_eq_true rfl
    case huc => exact Nat.le_of_ble_eq_true rfl
    case hrelc => exact List.forall_mem_singleton.mpr (by k_mem)
    intro v' h' tk' rel' F' N' D' hR'
    revert N' D'
    induction hR' with
    | mk T' Lv Cl nl nc lvs cls q1 q2 q3 hLv hCl =>
    intro N' D'
    have eL : ∀ q ∈ ((F0, listOf fs.toArray nF) :: (TX, listOf vs.toArray n) :: (d.rel ++ R) : List (Addr × Obj)), @Ne Nat T' q.1 ∧ @Ne Nat Lv q.1 ∧ @Ne Nat Cl q.1 := fun q hq => by
      have := D' q (.tail _ (.tail _ hq)) (List.forall_mem_singleton.mpr (eK q hq))
      exact ⟨this _ (.head _), this _ (.tail _ (.head _)), this _ (.tail _ (.tail _ (.head _)))⟩
    have eC : ∀ r ∈ [(K, listOf ws.toArray ws.length)], ((CX, listOf cs.toArray 0) : Addr × Obj).1 ≠ r.1 := List.forall_mem_singleton.mpr hKC
    have N3 := N' ((T', tupO [.ref Lv, .ref Cl]) :: (Lv, listOf lvs.toArray nl) :: (Cl, listOf cls.toArray nc) :: (K, listOf ws.toArray ws.length) :: (CX, listOf cs.toArray 0) :: (F0, listOf fs.toArray nF) :: (TX, listOf vs.toArray n) :: (d.rel ++ R)) (by
      refine fa_cons (.inl (by k_mem)) (fa_cons (.inl (by k_mem)) (fa_cons (.inl (by k_mem)) (fa_cons (.inl (by k_mem)) (fa_cons (.inr ⟨.tail _ (.head _), eC⟩) (fun q hq => .inr ⟨.tail _ (.tail _ hq), List.forall_mem_singleton.mpr (eK q hq)⟩))))))
    clear N' D' eC
    have n1 : NE T' F0 := (eL _ (.head _)).1
    have n2 : NE Lv F0 := (eL _ (.head _)).2.1
    have n3 : NE Cl F0 := (eL _ (.head _)).2.2
    have n4 : NE K F0 := dF
    have hfl : fs.length ≤ 2 := by have := hP.len; rw [this, List.length_take]; simp only [List.length_cons, List.length_nil]; omega
    have oR' := oR
    dsimp only [DT.adr] at oR
    dsimp only [DT.rel] at N3
    simp only [List.cons_append, List.nil_append] at N3
    k_steps
    rename_i A dA _ _ _ _ _ _ _ _ _ _ _ _ _ _ _ _ _ _ _ _ _ _ _ _ _
    have lA := lt9 (d := d) (R := R) ‹T' < dA ∧ _ ∧ _ ∧ _ ∧ _ ∧ _ ∧ _ ∧ _ ∧ _ ∧ _ ∧ _ ∧ _ ∧ _ ∧ _ ∧ AllLt dA R›.2.2.2.2.2
    have aA : @LT.lt Nat _ dA A := by assumption
    have hPe : (pars f b).take (i + 1) = (pars f b).take i ++ [(b0, ks)] := by rw [List.take_add_one, hpi]; rfl
    refine' TurnEnd.next (by assumption) (by assumption) ?g1 ?g2 ?g3 (.mk _ _ _ (by kst_all) (hPe ▸ PT.snoc A hP (ParaIs.mk A b0 ks dA CX K Lv Cl _ _ _ _ _ _ _ _ _ _ _ _ _ _ cs ws lvs cls hc hKs hLv hCl)) ?p2)
    case g1 =>
      refine sub_cons (by k_mem) (sub_cons (by k_mem) (fun q hq => ?_))
      rcases List.mem_append.mp hq with hq | hq
      · iterate 9 refine List.mem_cons_of_mem _ ?_
        exact List.mem_append_left R hq
      · rcases List.mem_append.mp hq with hq | hq
        · rcases List.mem_append.mp hq with hq | hq
          · refine of_mem hq ?_
            k_allIn
          · (repeat apply List.mem_cons_of_mem); exact sT q hq
        · (repeat apply List.mem_cons_of_mem); exact sT0 q hq
    case g2 => exact fun q hq => by (repeat apply List.mem_cons_of_mem); exact sO q hq
    case g3 =>
      intro q hq c hc
      obtain ⟨r, hr, rfl⟩ := List.mem_map.mp hc
      have old : r ∈ ((F0, listOf fs.toArray nF) :: (TX, listOf vs.toArray n) :: (d.rel ++ (tail ++ tail0)) : List (Addr × Obj)) → @Ne Nat q.1 r.1 := fun hr => off2 q hq r.1 (List.mem_map_of_mem hr)
      rcases List.mem_cons.mp hr with rfl | hr
      · exact off2 q hq F0 (.head _)
      rcases List.mem_cons.mp hr with rfl | hr
      · exact old (.tail _ (.head _))
      rcases List.mem_append.mp hr with hr | hr
      · exact old (.tail _ (.tail _ (List.mem_append_left _ hr)))
      rcases List.mem_append.mp hr with hr | hr
      · rcases List.mem_append.mp hr with hr | hr
        · have x4 := eL q (.tail _ (.tail _ (List.mem_append_right _ (sO q hq))))
          exact pa_own aA (lA.2 q (sO q hq)) (lC.2 q (sO q hq)) (dR q (sO q hq)) x4.2.1 x4.2.2 r hr
        · exact old (.tail _ (.tail _ (List.mem_append_right _ (List.mem_append_left _ hr))))
      · exact old (.tail _ (.tail _ (List.mem_append_right _ (List.mem_append_right _ hr))))
    case p2 =>
      intro q hq
      rcases List.mem_append.mp hq with hq | hq
      · rcases List.mem_append.mp hq with hq | hq
        · refine pa_off aA lA.1 lC.1 lK (fun c hc => ?_) q hq
          obtain ⟨r, hr, rfl⟩ := List.mem_map.mp (show c ∈ List.map (·.1) ((F0, listOf fs.toArray nF) :: (TX, listOf vs.toArray n) :: d.rel : List (Addr × Obj)) from hc)
          have x4 := eL r (by
            rcases List.mem_cons.mp hr with rfl | hr
            · exact .head _
            · rcases List.mem_cons.mp hr with rfl | hr
              · exact .tail _ (.head _)
              · exact .tail _ (.tail _ (List.mem_append_left _ hr)))
          exact x4.2
        · exact oR' q (sT q hq)
      · exact oR' q (sT0 q hq)
  · clear l0x hJ0 N0 sub0
    intro h' tk m' news' F₁ N₁ hJ
    revert N₁
    induction hJ with
    | mk nF fs tail hm hP oT =>
    intro N₁
    dsimp only [DT.rel] at N₁
    simp only [List.cons_append, List.nil_append] at N₁
    rw [← kst_self hm] at F₁
    k_steps
    refine' hret _ _ _ _ (Fr.keep (by assumption)) (lie_of (by assumption) ?g1y) (.mk F0 nF fs tail hP)
    case g1y =>
      refine sub_cons (by k_mem) (sub_cons (by k_mem) (fun q hq => ?_))
      (repeat apply List.mem_cons_of_mem); exact List.mem_append_left _ hq
end
end
section
abbrev ZipIs (h : Heap) (z TI TO a : Addr) (f : Bool) : Prop :=
  h.get? z = some { cls := .type "zip", dict := none, data := .fields #[rawInt a, .bool f, .bool false, .ref TI, .ref TO], slots := #[] }
section
variable {prog : Program} {w : World} {A : Around} {E : Value → Shared → Prop} {s : Shared}
theorem zip_next_out {z TI TO i1 i2 l1 l2 a : Addr} {f : Bool} {oa : Obj} {k1 k2 : Nat} {xs ys : Array Value} {x y : Value} {Q : Value → Shared → Prop} (D : ZipApart z TI TO i1 i2 l1 l2)
    (hz : ZipIs s.heap z TI TO a f) (ha : s.heap.get? a = some oa) (hTI : IsPair s.heap TI (.ref i1) (.ref i2))
    (h1 : s.heap.IsListIter i1 l1 k1) (h2 : s.heap.IsListIter i2 l2 k2) (hl1 : s.heap.IsList l1 xs) (hl2 : s.heap.IsList l2 ys) (hx : xs[k1]? = some x) (hy : ys[k2]? = some y)
    (hQ : ∀ h', ZipIs h' z TI TO a true → h'.IsListIter i1 l1 (k1 + 1) → h'.IsListIter i2 l2 (k2 + 1) → IsPair h' s.heap.objs.size x y → h'.objs.size = s.heap.objs.size + 1 →
      (∀ c o, c ≠ z → c ≠ i1 → c ≠ i2 → s.heap.get? c = some o → h'.get? c = some o) → Q (.ref s.heap.objs.size) { s with heap := h' }) :
    wpAny (model prog w) A (Builtin.«zip.__next__» ⟨[.ref z], []⟩) (fun fin s' => ∃ v, fin = .done (.ret v) ∧ Q v s') E s := by
  show wpAny _ _ (field (.ref z) 2 >>= _) _ _ _
  refine wpAny_bind (wpAny_field hz rfl (x := .bool false) rfl ?_)
  show wpAny _ _ (field (.ref z) 3 >>= _) _ _ _
  refine wpAny_bind (wpAny_field hz rfl (x := .ref TI) rfl ?_)
  refine wpAny_bind (wpAny_seqItems hTI rfl ?_)
  show wpAny _ _ (Builtin.SmallTypes.ownedTupleIsFree (.ref z) >>= _) _ _ _
  refine wpAny_bind ?_
  unfold Builtin.SmallTypes.ownedTupleIsFree
  refine wpAny_bind (wpAny_field hz rfl (x := rawInt a) rfl ?_)
  show wpAny _ _ (loadIfAlive ((a : Int).toNat) >>= _) _ _ _
  rw [Int.toNat_natCast]
  refine wpAny_bind (kdx_alive ha ?_)
  simp only [Option.isNone_some, Bool.false_eq_true, if_false]
  refine wpAny_bind (wpAny_field hz rfl (x := .bool f) rfl ?_)
  cases f with
  | true =>
    rw [if_neg (show ¬ ((Value.bool true != Value.bool true) = true) from Bool.false_ne_true)]
    refine wpAny_pure ?_
    have hs₁ := Heap.SameBut.refl z s.heap
    have hz₁ := hz
    simp only [Bool.false_eq_true, if_false, List.forIn_toArray, List.forIn_cons, List.forIn_nil]
    refine wpAny_bind (wpAny_bind (wpAny_bind (wpAny_holding ?_)))
    show wpAny _ _ (Builtin.SmallTypes.nextOf (.ref i1) >>= _) _ _ _
    refine wpAny_bind (wpAny_nextOf_list_item (h1.extBut hs₁.extBut D.i1z) (hl1.extBut hs₁.extBut D.l1z) hx fun h₂ h1₂ hs₂ => wpAny_pure (wpAny_pure ?_))
    refine wpAny_bind (wpAny_bind (wpAny_holding ?_))
    show wpAny _ _ (Builtin.SmallTypes.nextOf (.ref i2) >>= _) _ _ _
    refine wpAny_bind (wpAny_nextOf_list_item ((h2.extBut hs₁.extBut D.i2z).extBut hs₂.extBut D.i12.symm) ((hl2.extBut hs₁.extBut D.l2z).extBut hs₂.extBut D.l2i1) hy fun h₃ h2₃ hs₃ => wpAny_pure (wpAny_pure (wpAny_pure ?_)))
    refine wpAny_bind (wpAny_newTuple (hsz := Nat.le_of_ble_eq_true rfl) (wpAny_pure ⟨_, rfl, ?_⟩))
    have hsz : h₃.objs.size = s.heap.objs.size := by rw [hs₃.1, hs₂.1, hs₁.1]
    have hk₃ : ∀ c o, c ≠ z → c ≠ i1 → c ≠ i2 → s.heap.get? c = some o → h₃.get? c = some o := fun c o c1 c2 c3 e => hs₃.extBut _ _ c3 (hs₂.extBut _ _ c2 (hs₁.extBut _ _ c1 e))
    have h1₃ : h₃.IsListIter i1 l1 (k1 + 1) := h1₂.extBut hs₃.extBut D.i12
    have hz₃ : ZipIs h₃ z TI TO a true := hs₃.extBut _ _ D.i2z.symm (hs₂.extBut _ _ D.i1z.symm hz₁)
    have up : ∀ c o, h₃.get? c = some o → (h₃.push { cls := .type "tuple", data := .seq #[x, y] }).get? c = some o := fun c o e => Heap.get?_push_of_some _ e
    show Q (.ref h₃.objs.size) _
    rw [hsz]
    exact hQ _ (up _ _ hz₃) (h1₃.at fun o e => up _ o e) (h2₃.at fun o e => up _ o e) (by rw [← hsz]; exact Heap.get?_push_size _ rfl) (by rw [Heap.size_push, hsz]) fun c o c1 c2 c3 e => up c o (hk₃ c o c1 c2 c3 e)
  | false =>
    rw [if_pos (show (Value.bool false != Value.bool true) = true from rfl)]
    refine wpAny_bind (wpAny_setField_rec hz (by simp) fun h₁ hz₁ hs₁ => ?_)
    replace hs₁ : Heap.SameBut z s.heap h₁ := hs₁
    replace hz₁ : ZipIs h₁ z TI TO a true := hz₁
    refine wpAny_pure ?_
    simp only [Bool.false_eq_true, if_false, List.forIn_toArray, List.forIn_cons, List.forIn_nil]
    refine wpAny_bind (wpAny_bind (wpAny_bind (wpAny_holding ?_)))
    show wpAny _ _ (Builtin.SmallTypes.nextOf (.ref i1) >>= _) _ _ _
    refine wpAny_bind (wpAny_nextOf_list_item (h1.extBut hs₁.extBut D.i1z) (hl1.extBut hs₁.extBut D.l1z) hx fun h₂ h1₂ hs₂ => wpAny_pure (wpAny_pure ?_))
    refine wpAny_bind (wpAny_bind (wpAny_holding ?_))
    show wpAny _ _ (Builtin.SmallTypes.nextOf (.ref i2) >>= _) _ _ _
    refine wpAny_bind (wpAny_nextOf_list_item ((h2.extBut hs₁.extBut D.i2z).extBut hs₂.extBut D.i12.symm) ((hl2.extBut hs₁.extBut D.l2z).extBut hs₂.extBut D.l2i1) hy fun h₃ h2₃ hs₃ => wpAny_pure (wpAny_pure (wpAny_pure ?_)))
    refine wpAny_bind (wpAny_newTuple (hsz := Nat.le_of_ble_eq_true rfl) (wpAny_pure ⟨_, rfl, ?_⟩))
    have hsz : h₃.objs.size = s.heap.objs.size := by rw [hs₃.1, hs₂.1, hs₁.1]
    have hk₃ : ∀ c o, c ≠ z → c ≠ i1 → c ≠ i2 → s.heap.get? c = some o → h₃.get? c = some o := fun c o c1 c2 c3 e => hs₃.extBut _ _ c3 (hs₂.extBut _ _ c2 (hs₁.extBut _ _ c1 e))
    have h1₃ : h₃.IsListIter i1 l1 (k1 + 1) := h1₂.extBut hs₃.extBut D.i12
    have hz₃ : ZipIs h₃ z TI TO a true := hs₃.extBut _ _ D.i2z.symm (hs₂.extBut _ _ D.i1z.symm hz₁)
    have up : ∀ c o, h₃.get? c = some o → (h₃.push { cls := .type "tuple", data := .seq #[x, y] }).get? c = some o := fun c o e => Heap.get?_push_of_some _ e
    show Q (.ref h₃.objs.size) _
    rw [hsz]
    exact hQ _ (up _ _ hz₃) (h1₃.at fun o e => up _ o e) (h2₃.at fun o e => up _ o e) (by rw [← hsz]; exact Heap.get?_push_size _ rfl) (by rw [Heap.size_push, hsz]) fun c o c1 c2 c3 e => up c o (hk₃ c o c1 c2 c3 e)
theorem zip_end_out {z TI TO i1 i2 l1 l2 a : Addr} {f : Bool} {oa : Obj} {k1 : Nat} {xs : Array Value} {Q : Fin → Shared → Prop} (hh : A.handled = none) (D : ZipApart z TI TO i1 i2 l1 l2)
    (hz : ZipIs s.heap z TI TO a f) (ha : s.heap.get? a = some oa) (hTI : IsPair s.heap TI (.ref i1) (.ref i2))
    (h1 : s.heap.IsListIter i1 l1 k1) (hl1 : s.heap.IsList l1 xs) (hx : xs[k1]? = none)
    (hE : ∀ h' e, (∀ c o, c ≠ z → c ≠ i1 → s.heap.get? c = some o → h'.get? c = some o) → (∃ o, h'.get? e = some o ∧ o.cls = .type "StopIteration") → E (.ref e) { s with heap := h' }) :
    wpAny (model prog w) A (Builtin.«zip.__next__» ⟨[.ref z], []⟩) Q E s := by
  show wpAny _ _ (field (.ref z) 2 >>= _) _ _ _
  refine wpAny_bind (wpAny_field hz rfl (x := .bool false) rfl ?_)
  show wpAny _ _ (field (.ref z) 3 >>= _) _ _ _
  refine wpAny_bind (wpAny_field hz rfl (x := .ref TI) rfl ?_)
  refine wpAny_bind (wpAny_seqItems hTI rfl ?_)
  show wpAny _ _ (Builtin.SmallTypes.ownedTupleIsFree (.ref z) >>= _) _ _ _
  refine wpAny_bind ?_
  unfold Builtin.SmallTypes.ownedTupleIsFree
  refine wpAny_bind (wpAny_field hz rfl (x := rawInt a) rfl ?_)
  show wpAny _ _ (loadIfAlive ((a : Int).toNat) >>= _) _ _ _
  rw [Int.toNat_natCast]
  refine wpAny_bind (kdx_alive ha ?_)
  simp only [Option.isNone_some, Bool.false_eq_true, if_false]
  refine wpAny_bind (wpAny_field hz rfl (x := .bool f) rfl ?_)
  cases f with
  | true =>
    rw [if_neg (show ¬ ((Value.bool true != Value.bool true) = true) from Bool.false_ne_true)]
    refine wpAny_pure ?_
    simp only [Bool.false_eq_true, if_false, List.forIn_toArray, List.forIn_cons, List.forIn_nil]
    refine wpAny_bind (wpAny_bind (wpAny_bind (wpAny_holding ?_)))
    show wpAny _ _ (Builtin.SmallTypes.nextOf (.ref i1) >>= _) _ _ _
    exact wpAny_bind (wpAny_nextOf_list_end hh h1 hl1 hx fun h₂ e hs₂ he => hE h₂ e (fun c o _ c2 x => hs₂ _ _ c2 x) he)
  | false =>
    rw [if_pos (show (Value.bool false != Value.bool true) = true from rfl)]
    refine wpAny_bind (wpAny_setField_rec hz (by simp) fun h₁ hz₁ hs₁ => ?_)
    replace hs₁ : Heap.SameBut z s.heap h₁ := hs₁
    refine wpAny_pure ?_
    simp only [Bool.false_eq_true, if_false, List.forIn_toArray, List.forIn_cons, List.forIn_nil]
    refine wpAny_bind (wpAny_bind (wpAny_bind (wpAny_holding ?_)))
    show wpAny _ _ (Builtin.SmallTypes.nextOf (.ref i1) >>= _) _ _ _
    exact wpAny_bind (wpAny_nextOf_list_end hh (h1.extBut hs₁.extBut D.i1z) (hl1.extBut hs₁.extBut D.l1z) hx fun h₂ e hs₂ he => hE h₂ e (fun c o c1 c2 x => hs₂ _ _ c2 (hs₁.extBut _ _ c1 x)) he)
/-- a zip between two draws -/
structure ZSt (h : Heap) (z TI TO i1 i2 l1 l2 S : Addr) (xs ys : Array Value) (i : Nat) : Prop where
  own : (IsZip h z TI TO .none ∧ ∃ a b, IsPair h TO a b) ∨ ∃ a f oa, ZipIs h z TI TO a f ∧ h.get? a = some oa ∧ a ≠ z ∧ a ≠ i1 ∧ a ≠ i2 ∧ a ≠ S
  pair : IsPair h TI (.ref i1) (.ref i2)
  it1 : h.IsListIter i1 l1 i
  it2 : h.IsListIter i2 l2 i
  ls1 : h.IsList l1 xs
  ls2 : h.IsList l2 ys
theorem ZSt.keep {h h' : Heap} {z TI TO i1 i2 l1 l2 S : Addr} {xs ys : Array Value} {i : Nat} (x : ZSt h z TI TO i1 i2 l1 l2 S xs ys i) (d : S ≠ z ∧ S ≠ TI ∧ S ≠ TO ∧ S ≠ i1 ∧ S ≠ i2 ∧ S ≠ l1 ∧ S ≠ l2)
    (hk : ∀ b o, b ≠ S → h.get? b = some o → h'.get? b = some o) : ZSt h' z TI TO i1 i2 l1 l2 S xs ys i := by
  obtain ⟨own, pair, it1, it2, ls1, ls2⟩ := x
  refine ⟨?_, hk _ _ d.2.1.symm pair, it1.at fun o => hk _ o d.2.2.2.1.symm, it2.at fun o => hk _ o d.2.2.2.2.1.symm, ls1.at fun o => hk _ o d.2.2.2.2.2.1.symm, ls2.at fun o => hk _ o d.2.2.2.2.2.2.symm⟩
  rcases own with ⟨e1, a, b, e2⟩ | ⟨a, f, oa, e1, e2, n1, n2, n3, n4⟩
  · exact .inl ⟨hk _ _ d.1.symm e1, a, b, hk _ _ d.2.2.1.symm e2⟩
  · exact .inr ⟨a, f, oa, hk _ _ d.1.symm e1, hk _ _ n4 e2, n1, n2, n3, n4⟩
theorem z_item {z TI TO i1 i2 l1 l2 S : Addr} {i : Nat} {xs ys : Array Value} {x y : Value} {Q : Option Value → Shared → Prop} (D : ZipApart z TI TO i1 i2 l1 l2) (hst : ZSt s.heap z TI TO i1 i2 l1 l2 S xs ys i) (hx : xs[i]? = some x) (hy : ys[i]? = some y) (hS : S < s.heap.objs.size)
    (hQ : ∀ h', ZSt h' z TI TO i1 i2 l1 l2 S xs ys (i + 1) → IsPair h' s.heap.objs.size x y → h'.objs.size = s.heap.objs.size + 1 →
      (∀ c o, c ≠ z → c ≠ TO → c ≠ i1 → c ≠ i2 → s.heap.get? c = some o → h'.get? c = some o) → Q (some (.ref s.heap.objs.size)) { s with heap := h' }) :
    wpAny (model prog w) A (pyNext (.ref z)) Q E s := by
  obtain ⟨own, pair, it1, it2, ls1, ls2⟩ := hst
  have zl : i1 < s.heap.objs.size := by obtain ⟨_, e, _⟩ := it1; exact Heap.lt_size e
  have zl2 : i2 < s.heap.objs.size := by obtain ⟨_, e, _⟩ := it2; exact Heap.lt_size e
  rcases own with ⟨e1, a, b, e2⟩ | ⟨a, f, oa, e1, e2, n1, n2, n3, n4⟩
  · have zz : z < s.heap.objs.size := Heap.lt_size e1
    refine wpAny_pyNext_zip_item D e1 pair e2 it1 it2 ls1 ls2 hx hy fun h' a1 a2 a3 a4 a5 a6 a7 => hQ h' ⟨.inr ⟨_, false, _, a1, a5, Nat.ne_of_gt zz, Nat.ne_of_gt zl, Nat.ne_of_gt zl2, Nat.ne_of_gt hS⟩, ?_, a3, a4, ?_, ?_⟩ a5 a6 a7
    · exact a7 _ _ D.TIz D.TITO D.TIi1 D.TIi2 pair
    · exact ls1.at fun o e => a7 _ o D.l1z D.l1TO D.l1i1 D.l1i2 e
    · exact ls2.at fun o e => a7 _ o D.l2z D.l2TO D.l2i1 D.l2i2 e
  · have hT : s.TypeIs (.ref z) "zip" := ⟨_, e1, rfl⟩
    unfold pyNext
    refine wpAny_bind (wpAny_attempt (wpAny_callSpecial?_slot (name := Str.ofString "__next__") hT F.slot_zip_next
      (wpAny_call_entry F.slot_zip_next hT F.entry_zip_next
        (zip_next_out D e1 e2 pair it1 it2 ls1 ls2 hx hy fun h' a1 a3 a4 a5 a6 a7 => wpAny_pure (hQ h' ⟨.inr ⟨a, true, oa, a1, a7 _ _ n1 n2 n3 e2, n1, n2, n3, n4⟩, ?_, a3, a4, ?_, ?_⟩ a5 a6 fun c o c1 _ c3 c4 e => a7 c o c1 c3 c4 e)) (F.args_zip_next_1 _))))
    · exact a7 _ _ D.TIz D.TIi1 D.TIi2 pair
    · exact ls1.at fun o e => a7 _ o D.l1z D.l1i1 D.l1i2 e
    · exact ls2.at fun o e => a7 _ o D.l2z D.l2i1 D.l2i2 e
theorem z_done {z TI TO i1 i2 l1 l2 S : Addr} {i : Nat} {xs ys : Array Value} {Q : Option Value → Shared → Prop} (hh : A.handled = none) (D : ZipApart z TI TO i1 i2 l1 l2) (hst : ZSt s.heap z TI TO i1 i2 l1 l2 S xs ys i) (hx : xs[i]? = none)
    (hQ : ∀ h', (∀ c o, c ≠ z → c ≠ TO → c ≠ i1 → c ≠ i2 → s.heap.get? c = some o → h'.get? c = some o) → Q none { s with heap := h' }) :
    wpAny (model prog w) A (pyNext (.ref z)) Q E s := by
  obtain ⟨own, pair, it1, it2, ls1, ls2⟩ := hst
  rcases own with ⟨e1, a, b, e2⟩ | ⟨a, f, oa, e1, e2, n1, n2, n3, n4⟩
  · exact wpAny_pyNext_zip_end hh D e1 pair e2 it1 it2 ls1 ls2 (.inl hx) hQ
  · have hT : s.TypeIs (.ref z) "zip" := ⟨_, e1, rfl⟩
    unfold pyNext
    refine wpAny_bind (wpAny_attempt (wpAny_callSpecial?_slot (name := Str.ofString "__next__") hT F.slot_zip_next
      (wpAny_call_entry F.slot_zip_next hT F.entry_zip_next (zip_end_out hh D e1 e2 pair it1 ls1 hx fun h' e hk he => ?_) (F.args_zip_next_1 _))))
    obtain ⟨o, ho, hc⟩ := he
    refine wpAny_bind (wpAny_isInstance (T := "StopIteration") (b := true) ⟨o, ho, hc⟩ isSubtype_stop ?_)
    exact wpAny_pure (hQ _ fun c o c1 _ c3 _ x => hk c o c1 c3 x)
end
end
section
structure ZG (lo : Addr) (h : Heap) (as : List Addr) (xs ys : Array Value) : Prop where
  above : ∀ a ∈ as, @LT.lt Nat _ lo a
  pairs : ∀ (j : Nat) (a : Addr), as[j]? = some a → ∃ x y, xs[j]? = some x ∧ ys[j]? = some y ∧ IsPair h a x y
section
variable {prog : Program} {w : World} {A : Around} {s : Shared} {R : Result → Shared → Prop}
theorem z_loop {S z TI TO i1 i2 l1 l2 : Addr} {xs ys : Array Value} (hh : A.handled = none) (D : ZipApart z TI TO i1 i2 l1 l2) (d : S ≠ z ∧ S ≠ TI ∧ S ≠ TO ∧ S ≠ i1 ∧ S ≠ i2 ∧ S ≠ l1 ∧ S ≠ l2)
    (lo : @LT.lt Nat _ z S ∧ @LT.lt Nat _ TO S ∧ @LT.lt Nat _ i1 S ∧ @LT.lt Nat _ i2 S) (hxy : xs.size = ys.size) (hn : xs.size ≤ sizeLine) (res : Value) {h₁ : Heap}
    (hR : ∀ h' tk acc c as, (∀ b o, b ≠ S → b ≠ z → b ≠ TO → b ≠ i1 → b ≠ i2 → h₁.get? b = some o → h'.get? b = some o) → h'.get? S = some { cls := .type "list", dict := none, data := .seq acc c, slots := #[] } → as.length = xs.size → ZG S h' as xs ys →
      acc.toList = as.map Value.ref → R (.ok (.ret res)) { s with heap := h', toks := tk }) :
    ∀ (k i : Nat) (h : Heap) (tk c : Nat) (acc : Array Value) (as : List Addr), xs.size - i = k → i ≤ xs.size → ZSt h z TI TO i1 i2 l1 l2 S xs ys i → (∀ b o, b ≠ S → b ≠ z → b ≠ TO → b ≠ i1 → b ≠ i2 → h₁.get? b = some o → h.get? b = some o) →
      h.get? S = some { cls := .type "list", dict := none, data := .seq acc c, slots := #[] } → acc.toList = as.map Value.ref → as.length = i → ZG S h as xs ys →
      codeAny (model prog w) A (.builtin "list.extend.loop" ⟨[.ref S, .ref z, res], []⟩) R { s with heap := h, toks := tk } := by
  obtain ⟨n1, n2, n3, n4⟩ := lo
  have ap : ∀ {a : Addr}, @LT.lt Nat _ S a → a ≠ S ∧ a ≠ z ∧ a ≠ TO ∧ a ≠ i1 ∧ a ≠ i2 := fun h => ⟨Nat.ne_of_gt h, Nat.ne_of_gt (Nat.lt_trans n1 h), Nat.ne_of_gt (Nat.lt_trans n2 h), Nat.ne_of_gt (Nat.lt_trans n3 h), Nat.ne_of_gt (Nat.lt_trans n4 h)⟩
  intro k
  induction k with
  | zero =>
    intro i h tk c acc as hk hi hst hkeep hS hacc hal hG
    have hin : i = xs.size := Nat.le_antisymm hi (Nat.le_of_sub_eq_zero hk)
    refine codeAny_builtin PySem.F.entry_extend_loop ?_
    rw [Around.under_plainId PySem.F.plain_extend_loop _]
    show wpAny _ A.in1 (pyNext (.ref z) >>= _) _ _ _
    refine wpAny_bind (z_done (s := { s with heap := h, toks := tk }) (A := A.in1) hh D hst (by rw [hin]; exact Array.getElem?_eq_none (Nat.le_refl _)) fun h' he => ?_)
    refine wpAny_pure (hR h' tk acc c as (fun b o c0 c1 c2 c3 c4 e => he b o c1 c2 c3 c4 (hkeep b o c0 c1 c2 c3 c4 e)) (he S _ d.1 d.2.2.1 d.2.2.2.1 d.2.2.2.2.1 hS) (hal.trans hin) ⟨hG.above, fun j a hj => ?_⟩ hacc)
    obtain ⟨x, y, e1, e2, e3⟩ := hG.pairs j a hj
    obtain ⟨c0, c1, c2, c3, c4⟩ := ap (hG.above a (List.mem_of_getElem? hj))
    exact ⟨x, y, e1, e2, he a _ c1 c2 c3 c4 e3⟩
  | succ k ih =>
    intro i h tk c acc as hk hi hst hkeep hS hacc hal hG
    have hlt : i < xs.size := Nat.lt_of_sub_eq_succ hk
    have hlt2 : i < ys.size := hxy ▸ hlt
    have hsz : acc.size = i := by rw [← Array.length_toList, hacc, List.length_map, hal]
    have hSl : S < h.objs.size := Heap.lt_size hS
    refine codeAny_builtin PySem.F.entry_extend_loop ?_
    rw [Around.under_plainId PySem.F.plain_extend_loop _]
    show wpAny _ A.in1 (pyNext (.ref z) >>= _) _ _ _
    refine wpAny_bind (z_item (s := { s with heap := h, toks := tk }) (S := S) D hst (Array.getElem?_eq_getElem hlt) (Array.getElem?_eq_getElem hlt2) hSl fun h' hst' ht hz hkp => ?_)
    dsimp only at ht hz hkp ⊢
    have hS' := hkp S _ d.1 d.2.2.1 d.2.2.2.1 d.2.2.2.2.1 hS
    have up : ∀ b o, b ≠ S → h'.get? b = some o → (h'.update S (Obj.mapSeq (·.push (Value.ref h.objs.size)))).get? b = some o := fun b o hb e => (Heap.get?_update_other _ _ (Ne.symm hb)).trans e
    show wpAny _ A.in1 (updateSeq S (·.push (Value.ref h.objs.size)) >>= _) _ _ _
    refine wpAny_bind ?_
    refine wpAny_updateSeq hS' rfl (wpAny_pure ⟨plainId_quiet PySem.F.plain_extend_loop _, ih (i + 1) _ tk _ (acc.push (Value.ref h.objs.size)) (as ++ [h.objs.size]) (by rw [Nat.sub_add_eq, hk]; rfl) hlt (hst'.keep d up)
      (fun b o c0 c1 c2 c3 c4 e => up b o c0 (hkp b o c1 c2 c3 c4 (hkeep b o c0 c1 c2 c3 c4 e))) (Heap.get?_update_self _ hS' rfl) (by rw [Array.toList_push, hacc, List.map_append]; rfl) (by rw [List.length_append, hal]; rfl) ⟨?_, ?_⟩⟩) (by rw [hsz]; omega) (by show (acc.push (Value.ref h.objs.size)).size ≤ sizeLine + 1; rw [Array.size_push, hsz]; omega)
    · intro a ha
      rcases List.mem_append.mp ha with ha | ha
      · exact hG.above a ha
      · rw [List.mem_singleton.mp ha]; exact hSl
    · intro j b hj
      rcases Nat.lt_trichotomy j as.length with h1 | h1 | h1
      · rw [List.getElem?_append_left h1] at hj
        obtain ⟨x, y, e1, e2, e3⟩ := hG.pairs j b hj
        obtain ⟨c0, c1, c2, c3, c4⟩ := ap (hG.above b (List.mem_of_getElem? hj))
        exact ⟨x, y, e1, e2, up b _ c0 (hkp b _ c1 c2 c3 c4 e3)⟩
      · subst h1
        have hb : h.objs.size = b := by simpa using hj
        subst hb
        exact ⟨_, _, by rw [hal]; exact Array.getElem?_eq_getElem hlt, by rw [hal]; exact Array.getElem?_eq_getElem hlt2, up _ _ (Nat.ne_of_gt hSl) ht⟩
      · have hnone : (as ++ [h.objs.size])[j]? = none := List.getElem?_eq_none (by rw [List.length_append, List.length_singleton]; omega)
        rw [hnone] at hj; cases hj
end
theorem z_len : typeLookup (.type "zip") "__len__" = pure none := by rw [typeLookup_type, builtinLookup_eq_fast]; kernel_rfl
theorem z_lhint : typeLookup (.type "zip") "__length_hint__" = pure none := by rw [typeLookup_type, builtinLookup_eq_fast]; kernel_rfl
section
variable {prog : Program} {w : World} {A : Around} {E : Value → Shared → Prop} {s : Shared}
theorem z_hint {z : Addr} (hT : s.TypeIs (.ref z) "zip") {Q : Bool → Shared → Prop} (h : Q true s) : wpAny (model prog w) A (Builtin.List.listLengthHint (.ref z)) Q E s := by
  unfold Builtin.List.listLengthHint
  refine wpAny_bind (wpAny_specialOf hT z_len ?_)
  refine wpAny_ite_split (fun hab => absurd hab (by decide)) (fun _ => ?_)
  refine wpAny_ite_split (fun hab => absurd hab (by decide)) (fun _ => ?_)
  refine wpAny_bind (wpAny_specialOf hT z_lhint ?_)
  exact wpAny_pure h
end
end
section
section
variable {prog : Program} {w : World} {A : Around} {E : Value → Shared → Prop} {s : Shared}
theorem z_extend {R : Result → Shared → Prop} {S z TI TO i1 i2 l1 l2 : Addr} {xs ys : Array Value} (hh : A.handled = none) (D : ZipApart z TI TO i1 i2 l1 l2) (d : S ≠ z ∧ S ≠ TI ∧ S ≠ TO ∧ S ≠ i1 ∧ S ≠ i2 ∧ S ≠ l1 ∧ S ≠ l2)
    (lo : @LT.lt Nat _ z S ∧ @LT.lt Nat _ TO S ∧ @LT.lt Nat _ i1 S ∧ @LT.lt Nat _ i2 S) (hxy : xs.size = ys.size) (hn : xs.size ≤ sizeLine) (res : Value) (c₀ : Nat) (hS : s.heap.get? S = some { cls := .type "list", data := .seq #[] c₀ })
    (hst : ZSt s.heap z TI TO i1 i2 l1 l2 S xs ys 0) (f0 : Value) (hz0 : IsZip s.heap z TI TO f0)
    (hR : ∀ h' tk acc c as, (∀ b o, b ≠ S → b ≠ z → b ≠ TO → b ≠ i1 → b ≠ i2 → s.heap.get? b = some o → h'.get? b = some o) → h'.get? S = some { cls := .type "list", dict := none, data := .seq acc c, slots := #[] } → as.length = xs.size → ZG S h' as xs ys →
      acc.toList = as.map Value.ref → R (.ok (.ret res)) { s with heap := h', toks := tk }) :
    wpAny (model prog w) A.in1 (Builtin.List.listExtendWith (.ref S) (.ref z) res)
      (fun fin s' => match fin with | .done f => R (.ok f) s' | .again c' => c'.quiet = true ∧ codeAny (model prog w) A c' R s') (fun e s' => R (.error e) s') s := by
  have hT : s.TypeIs (.ref z) "zip" := ⟨_, hz0, rfl⟩
  have key : ∀ (h : Heap) (c₁ tk : Nat), (∀ b o, b ≠ S → s.heap.get? b = some o → h.get? b = some o) →
      h.get? S = some { cls := .type "list", data := .seq #[] c₁ } → codeAny (model prog w) A (.builtin "list.extend.loop" ⟨[.ref S, .ref z, res], []⟩) R { s with heap := h, toks := tk } := by
    intro h c₁ tk hk hS₁
    exact z_loop (s := s) (h₁ := s.heap) hh D d lo hxy hn res hR xs.size 0 h tk c₁ #[] [] (Nat.sub_zero _) (Nat.zero_le _) (hst.keep d hk) (fun b o c0 _ _ _ _ e => hk b o c0 e) hS₁ rfl rfl ⟨(fun _ ha => nomatch ha), (fun j a hj => by simp at hj)⟩
  unfold Builtin.List.listExtendWith
  refine wpAny_bind (wpAny_typeOf (T := "zip") hT ?_)
  have h1 : Builtin.List.listSameRef (.ref S) (.ref z) = false := by simp [Builtin.List.listSameRef, d.1]
  have h2 : (Value.type "zip" == Value.type "list") = false := by decide
  have h3 : (Value.type "zip" == Value.type "tuple") = false := by decide
  simp only [h1, h2, h3, Bool.or_false, Bool.false_eq_true, if_false]
  refine wpAny_bind (wpAny_pyIter_zip hz0 ?_)
  refine wpAny_bind (wpAny_holding (z_hint hT ?_))
  refine wpAny_ite_split (fun _ => ?_) (fun _ => wpAny_pure ⟨plainId_quiet PySem.F.plain_extend_loop _, key _ c₀ _ (fun b o _ e => e) hS⟩)
  refine wpAny_bind (wpAny_rule ?_)
  refine wpAny_bind ?_
  show wpAny _ _ (updateSeq S (·.push .none) >>= fun _ => updateSeq S (·.pop)) _ _ _
  refine wpAny_bind (wpAny_updateSeq hS rfl ?_)
  have hS₂ := Heap.get?_update_self (Obj.mapSeq (·.push Value.none)) hS rfl
  refine wpAny_updateSeq (hz := by seq_fits) hS₂ rfl ?_
  have hS₃ := Heap.get?_update_self (Obj.mapSeq (·.pop)) hS₂ rfl
  refine wpAny_pure ⟨plainId_quiet PySem.F.plain_extend_loop _, key _ _ _ (fun b o hb e => ?_) hS₃⟩
  exact (Heap.get?_update_other _ _ (Ne.symm hb)).trans ((Heap.get?_update_other _ _ (Ne.symm hb)).trans e)
theorem z_init {R : Result → Shared → Prop} {S z TI TO i1 i2 l1 l2 : Addr} {xs ys : Array Value} (hh : A.handled = none) (D : ZipApart z TI TO i1 i2 l1 l2) (d : S ≠ z ∧ S ≠ TI ∧ S ≠ TO ∧ S ≠ i1 ∧ S ≠ i2 ∧ S ≠ l1 ∧ S ≠ l2)
    (lo : @LT.lt Nat _ z S ∧ @LT.lt Nat _ TO S ∧ @LT.lt Nat _ i1 S ∧ @LT.lt Nat _ i2 S) (hxy : xs.size = ys.size) (hn : xs.size ≤ sizeLine) (hS : s.heap.get? S = some { cls := .type "list", data := .seq #[] })
    (hst : ZSt s.heap z TI TO i1 i2 l1 l2 S xs ys 0) (f0 : Value) (hz0 : IsZip s.heap z TI TO f0)
    (hR : ∀ h' tk acc c as, (∀ b o, b ≠ S → b ≠ z → b ≠ TO → b ≠ i1 → b ≠ i2 → s.heap.get? b = some o → h'.get? b = some o) → h'.get? S = some { cls := .type "list", dict := none, data := .seq acc c, slots := #[] } → as.length = xs.size → ZG S h' as xs ys →
      acc.toList = as.map Value.ref → R (.ok (.ret .none)) { s with heap := h', toks := tk }) :
    wpAny (model prog w) A.in1 (Builtin.«list.__init__» ⟨[.ref S, .ref z], []⟩)
      (fun fin s' => match fin with | .done f => R (.ok f) s' | .again c' => c'.quiet = true ∧ codeAny (model prog w) A c' R s') (fun e s' => R (.error e) s') s := by
  show wpAny _ _ (do let old ← Builtin.List.listItems (.ref S); Builtin.List.listUpdate (.ref S) (fun _ => #[]); letGo old.toList.reverse; Builtin.List.listExtendWith (.ref S) (.ref z) .none) _ _ s
  refine wpAny_bind ?_
  unfold Builtin.List.listItems
  refine wpAny_bind (wpAny_seqItems hS rfl (wpAny_pure ?_))
  show wpAny _ _ (updateSeq S (fun _ => #[]) >>= fun _ => letGo (#[] : Array Value).toList.reverse >>= fun _ => Builtin.List.listExtendWith (.ref S) (.ref z) .none) _ _ s
  refine wpAny_bind (wpAny_updateSeq hS rfl ?_)
  have hS₂ := Heap.get?_update_self (Obj.mapSeq (fun _ => (#[] : Array Value))) hS rfl
  have oth : ∀ b o, b ≠ S → s.heap.get? b = some o → (s.heap.update S (Obj.mapSeq (fun _ => (#[] : Array Value)))).get? b = some o :=
    fun b o hb e => (Heap.get?_update_other _ _ (Ne.symm hb)).trans e
  refine wpAny_bind (wpAny_letGo ?_)
  exact z_extend hh D d lo hxy hn .none _ hS₂ (hst.keep d oth) f0 (oth _ _ d.1.symm hz0) (fun h' tk acc c as hk hS' hl hG hacc =>
    hR h' tk acc c as (fun b o c0 c1 c2 c3 c4 e => hk b o c0 c1 c2 c3 c4 (oth b o c0 e)) hS' hl hG hacc)
theorem z_call {Q : Value → Shared → Prop} {z TI TO i1 i2 l1 l2 : Addr} {xs ys : Array Value} (hh : A.handled = none) (D : ZipApart z TI TO i1 i2 l1 l2) (hxy : xs.size = ys.size) (hn : xs.size ≤ sizeLine)
    (hst : IsZip s.heap z TI TO .none ∧ IsPair s.heap TI (.ref i1) (.ref i2) ∧ (∃ a b, IsPair s.heap TO a b) ∧ s.heap.IsListIter i1 l1 0 ∧ s.heap.IsListIter i2 l2 0 ∧ s.heap.IsList l1 xs ∧ s.heap.IsList l2 ys)
    (hQ : ∀ h' tk acc c as, (∀ b o, b ≠ z → b ≠ TO → b ≠ i1 → b ≠ i2 → s.heap.get? b = some o → h'.get? b = some o) → h'.get? s.heap.objs.size = some { cls := .type "list", dict := none, data := .seq acc c, slots := #[] } → as.length = xs.size → ZG s.heap.objs.size h' as xs ys →
      acc.toList = as.map Value.ref → Q (.ref s.heap.objs.size) { s with heap := h', toks := tk }) :
    wpAny (model prog w) A (call (.type "list") [.ref z]) Q E s := by
  obtain ⟨hz, hTI, ⟨a, b, hTO⟩, h1, h2, hl1, hl2⟩ := hst
  refine callType_codes (Q₁ := fun obj s₁ => obj = .ref s.heap.objs.size ∧ s₁ = { s with heap := s.heap.push { cls := .type "list", data := .seq #[] } }) PySem.F.called_list (PySem.F.typeCall_list_1 _) PySem.F.entry_list_init
    (code_list_new _ ⟨rfl, rfl⟩) fun obj s₁ h₁ => ?_
  obtain ⟨rfl, rfl⟩ := h₁
  have hS : (s.heap.push { cls := .type "list", data := .seq #[] }).get? s.heap.objs.size = some { cls := .type "list", data := .seq #[] } := Heap.get?_push_size _ rfl
  have zz : z < s.heap.objs.size := Heap.lt_size hz
  have zTI : TI < s.heap.objs.size := Heap.lt_size hTI
  have zTO : TO < s.heap.objs.size := Heap.lt_size hTO
  have z1 : i1 < s.heap.objs.size := by obtain ⟨_, e, _⟩ := h1; exact Heap.lt_size e
  have z2 : i2 < s.heap.objs.size := by obtain ⟨_, e, _⟩ := h2; exact Heap.lt_size e
  have z3 : l1 < s.heap.objs.size := by obtain ⟨_, e, _⟩ := hl1; exact Heap.lt_size e
  have z4 : l2 < s.heap.objs.size := by obtain ⟨_, e, _⟩ := hl2; exact Heap.lt_size e
  have up : ∀ b o, s.heap.get? b = some o → (s.heap.push { cls := .type "list", data := .seq #[] }).get? b = some o := fun b o e => Heap.get?_push_of_some _ e
  refine ⟨⟨_, hS, rfl⟩, PySem.F.args_list_init_2 _ _, z_init (A := A.in1) hh D ⟨Nat.ne_of_gt zz, Nat.ne_of_gt zTI, Nat.ne_of_gt zTO, Nat.ne_of_gt z1, Nat.ne_of_gt z2, Nat.ne_of_gt z3, Nat.ne_of_gt z4⟩ ⟨zz, zTO, z1, z2⟩ hxy hn hS
    ⟨.inl ⟨up _ _ hz, a, b, up _ _ hTO⟩, up _ _ hTI, h1.at fun o e => up _ o e, h2.at fun o e => up _ o e, hl1.at fun o e => up _ o e, hl2.at fun o e => up _ o e⟩ .none (up _ _ hz) (fun h' tk acc c as hk hS' hl hG hacc => ?_)⟩
  exact ⟨rfl, hQ h' tk acc c as (fun b o c1 c2 c3 c4 e => hk b o (Nat.ne_of_lt (Heap.lt_size e)) c1 c2 c3 c4 (up _ _ e)) hS' hl hG hacc⟩
end
/-- the pairs of a zip -/
inductive ZObjs : List (Addr × Obj) → List Value → List Value → List Value → Prop
  | nil : ZObjs [] [] [] []
  | cons {t fv xs ys} (a : Addr) (x y : Value) : ZObjs t fv xs ys → ZObjs ((a, { cls := .type "tuple", data := .seq [x, y].toArray }) :: t) (.ref a :: fv) (x :: xs) (y :: ys)
theorem zobjs_of {lo : Addr} {h : Heap} : ∀ (as : List Addr) (xs ys : List Value), as.length = xs.length → xs.length = ys.length → (∀ (j : Nat) (a : Addr), as[j]? = some a → ∃ x y, xs[j]? = some x ∧ ys[j]? = some y ∧ IsPair h a x y) → (∀ a ∈ as, @LT.lt Nat _ lo a) →
    ∃ t, ZObjs t (as.map Value.ref) xs ys ∧ ∀ q ∈ t, h.get? q.1 = some q.2 ∧ @LT.lt Nat _ lo q.1
  | [], [], [], _, _, _, _ => ⟨[], .nil, fun _ h => nomatch h⟩
  | a :: as, x :: xs, y :: ys, e1, e2, hp, hl => by
    obtain ⟨t, ht, hq⟩ := zobjs_of (h := h) as xs ys (Nat.succ.inj e1) (Nat.succ.inj e2) (fun j b hb => hp (j + 1) b (by simpa using hb)) (fun b hb => hl b (.tail _ hb))
    obtain ⟨x', y', h1, h2, h3⟩ := hp 0 a rfl
    cases h1
    cases h2
    refine ⟨_, .cons a x y ht, fun q hq' => ?_⟩
    rcases List.mem_cons.mp hq' with rfl | hq'
    · exact ⟨h3, hl a (.head _)⟩
    · exact hq q hq'
  | [], _ :: _, _, e, _, _, _ => by cases e
  | _ :: _, [], _, e, _, _, _ => by cases e
  | [], [], _ :: _, _, e, _, _ => by cases e
  | _ :: _, _ :: _, [], _, e, _, _ => by cases e
section
variable {prog : Program} {w : World} {A : Around} {E : Value → Shared → Prop} {s : Shared} {h₀ : Heap} {L : Addr} {m : Str → Option Value} {news : List (Addr × Obj)}
/-- list(zip(a, b)) -/
theorem my_list_zip {Q : Value → Shared → Prop} {l1 l2 : Addr} {xs ys : List Value} {n1 n2 : Nat} (hh : A.handled = none) (F : Fr h₀ L s.heap m) (N : News h₀ L s.heap news) (m1 : (l1, listOf xs.toArray n1) ∈ news) (m2 : (l2, listOf ys.toArray n2) ∈ news)
    (hxy : xs.length = ys.length) (hn : xs.length ≤ 100000)
    (hQ : ∀ (h' : Heap) (tk : Nat) (D : Addr) (t : List (Addr × Obj)) (fv : List Value) (c : Nat), Fr h₀ L h' m → ZObjs t fv xs ys → News h₀ L h' ((D, listOf fv.toArray c) :: (t ++ news)) → (∀ p ∈ news, @LT.lt Nat _ p.1 D) → Q (.ref D) { s with heap := h', toks := tk }) :
    wpAny (model prog w) A (call (.type "zip") [.ref l1, .ref l2]) (fun v s₁ => wpAny (model prog w) A (call (.type "list") [v]) Q E s₁) E s := by
  have hl1 : s.heap.IsList l1 xs.toArray := ⟨_, (N _ m1).1, rfl, n1, rfl⟩
  have hl2 : s.heap.IsList l2 ys.toArray := ⟨_, (N _ m2).1, rfl, n2, rfl⟩
  refine zip_rows F hl1 hl2 fun h₁ z TI TO i1 i2 D hst F₁ hk z1 z2 z3 z4 zL => ?_
  have N₁ : News h₀ L h₁ news := N.grown hk
  refine z_call (s := { s with heap := h₁ }) hh D (by simpa using hxy) (by rw [sizeLine_eq, List.size_toArray]; omega) hst fun h' tk acc c as hk' hS hlen hG hacc => ?_
  dsimp only at hk' hS hG ⊢
  have ne : ∀ b o, s.heap.get? b = some o → h'.get? b = some o := fun b o e => by
    have hb := Heap.lt_size e
    exact hk' b o (Nat.ne_of_lt (Nat.lt_of_lt_of_le hb z1)) (Nat.ne_of_lt (Nat.lt_of_lt_of_le hb z2)) (Nat.ne_of_lt (Nat.lt_of_lt_of_le hb z3)) (Nat.ne_of_lt (Nat.lt_of_lt_of_le hb z4)) (hk b o e)
  have none_of : ∀ b, h₁.objs.size ≤ b → h₀.get? b = none := fun b hb => by
    cases e : h₀.get? b with
    | none => rfl
    | some o => exact absurd (Heap.lt_size (F₁.keep b o e)) (Nat.not_lt.mpr hb)
  have hL : @LT.lt Nat _ L h₁.objs.size := by obtain ⟨o, _, _, x, _⟩ := F₁.ns; exact Heap.lt_size x
  obtain ⟨t, ht, hq⟩ := zobjs_of (h := h') as xs ys (by simpa using hlen) hxy (fun j a hj => by
    obtain ⟨x, y, e1, e2, e3⟩ := hG.pairs j a hj
    exact ⟨x, y, by simpa using e1, by simpa using e2, e3⟩) hG.above
  refine hQ h' tk _ t _ c (F.keeps ne) ht (fun q hq' => ?_) (fun p hp => Heap.lt_size (N₁ p hp).1)
  rcases List.mem_cons.mp hq' with rfl | hq'
  · refine ⟨?_, Nat.ne_of_gt hL, none_of _ (Nat.le_refl _)⟩
    rw [hS, ← hacc]
  · rcases List.mem_append.mp hq' with hq' | hq'
    · obtain ⟨e1, e2⟩ := hq q hq'
      exact ⟨e1, Nat.ne_of_gt (Nat.lt_trans hL e2), none_of _ (Nat.le_of_lt e2)⟩
    · exact (N.grown ne) q hq'
end
end
section
/-- a contract that reads the ground -/
def SpecP (Pg : Heap → Prop) (w : World) (dp : Nat) (f : Addr) (args : List Value) (rel : List (Addr × Obj)) (Ret : Value → List (Addr × Obj) → Prop) : Prop :=
  ∀ (p : Program) (loose : List Str) (mean : ExcName → Option Value) (mg mb : Str → Option Value) (outer : List Env) (base g : Heap) (s : Shared) (R : Result → Shared → Prop),
    PyProof.Rows.Below (SA dp outer) base outer g → (hd.heap_1 w.params).In g → Top p loose mean mg mb g → g.objs.size ≤ s.heap.objs.size → g.StaysIn s.heap → Lie g s.heap rel → Pg g →
    (∀ v h' tk' rel', g.StaysIn h' → Lie g h' rel' → Ret v rel' → R (.ok (.ret v)) { s with heap := h', toks := tk' }) →
    codeAny (model PySem.Challenge.rw_hb0008_01.row.prog w) (SA dp outer) (.call (.ref f) ⟨args, []⟩) R s
/-- such a contract at a call -/
theorem use_callP {Pg : Heap → Prop} {w : World} {A A₀ : Around} {E : Value → Shared → Prop} {Q : Value → Shared → Prop} {p : Program} {loose : List Str} {mean : ExcName → Option Value} {mg mb : Str → Option Value} {env : Env} {outer : List Env} {base h₀ : Heap} {L : Addr} {m : Str → Option Value} {s : Shared} {news : List (Addr × Obj)}
    {dp : Nat} {f : Addr} {args : List Value} {Ret : Value → List (Addr × Obj) → Prop}
    (B : PyProof.Rows.Below A₀ base outer h₀) (F : Fr h₀ L s.heap m) (X : (hd.heap_1 w.params).In h₀) (N : News h₀ L s.heap news) (T : Top p loose mean mg mb h₀)
    (S : SpecP Pg w dp f args [] Ret) (hP : ∀ g', h₀.StaysIn g' → Pg g')
    (hA : A.frames = some (env :: outer)) (hf : env.frame = some L) (hke : env.scope.kind = .function) (hh : A.handled = none) (hg : A.guards = some []) (hd : A.depth ≤ dp) (hu : A.units ≤ 10 * dp)
    (k : ∀ v h' tk' rel', Fr h₀ L h' m → News h₀ L h' (rel' ++ news) → (∀ q ∈ news, ∀ r ∈ rel', r.1 ≠ q.1) → Ret v rel' → Q v { s with heap := h', toks := tk' }) :
    wpAny (model PySem.Challenge.rw_hb0008_01.row.prog w) A (call (.ref f) args) Q E s := by
  refine wpAny_call ?_
  have Nr : News h₀ L s.heap [] := fun _ h => nomatch h
  obtain ⟨FG, BG, st, -⟩ := groundX (R := fun r s' => match r with | .ok (.ret v) => Q v s' | .ok _ => Q .none s' | .error e => E e s') B F Nr hA hf hke
  have st' : ∀ b o, h₀.get? b = some o → (hideAll s.heap ([] : List Addr)).get? b = some o := st
  refine code_weaken (A := SA dp (env :: outer)) hh hd hA hg hu ?_
  refine S p loose mean mg mb (env :: outer) base (hideAll s.heap []) s _ ⟨rfl, BG.stays, BG.frames⟩ (X.keeps st') (T.keeps st') (Nat.le_of_eq (hideAll_size _ _)) (fun b o e => of_hideAll _ e) (fun _ h => nomatch h) (hP _ st') ?_
  intro v h' tk' rel' sh Lr hR
  obtain ⟨oL, es, ep, hL, hLd, hLk, hLf⟩ := FG.ns
  have inG : ∀ q ∈ news, (hideAll s.heap ([] : List Addr)).get? q.1 = some q.2 := fun q hq => hideAll_get _ (N q hq).1 fun hm => nomatch hm
  refine k v h' tk' rel' ⟨⟨oL, es, ep, sh L oL hL, hLd, hLk, hLf⟩, fun b o e => sh b o (st b o e), F.above⟩ (fun q hq => ?_) (fun q hq r hr e => ?_) hR
  · rcases List.mem_append.mp hq with hq | hq
    · refine ⟨(Lr q hq).1, fun e => ?_, ?_⟩
      · have h1 := (Lr q hq).2; have h2 : (hideAll s.heap ([] : List Addr)).get? q.1 = some oL := by rw [e]; exact hL
        rw [h2] at h1; cases h1
      · cases e : h₀.get? q.1 with
        | none => rfl
        | some o => have h1 := (Lr q hq).2; rw [st' _ _ e] at h1; cases h1
    · exact ⟨sh _ _ (inG q hq), (N q hq).2.1, (N q hq).2.2⟩
  · have := (Lr r hr).2
    rw [e, inG q hq] at this
    cases this
inductive RsJ (N0 : List (Addr × Obj)) (i : Nat) (ys : List Value) : List (Addr × Obj) → Prop
  | mk (rs : List Int) : IntsAre ys rs → rs.length = i → (∀ x ∈ rs, 0 ≤ x) → RsJ N0 i ys N0
inductive DkJ (D : Nat) (N0 : List (Addr × Obj)) (m : Str → Option Value) : List (Addr × Obj) → Prop
  | mk (mx : Int) (t : Tok) : 0 ≤ mx → (∀ q ∈ [(Str.ofString "left", Value.ref D), (Str.ofString "mixed", Value.int mx t)], m q.1 = some q.2) → DkJ D N0 m N0
inductive DeckR (w : World) : Value → List (Addr × Obj) → Prop
  | mk (DK LF n : Nat) (oD : Obj) (mx : Int) (tm : Tok) (vs' : List Value) (ns' : List Int) : @LT.lt Nat _ LF DK → DeckD w oD LF mx tm → IntsAre vs' ns' → ns'.length ≤ 20 → (∀ x ∈ ns', 0 ≤ x) → 0 ≤ mx → DeckR w (.ref DK) [(DK, oD), (LF, listOf vs'.toArray n)]
theorem deck_spec (w : World) (S : Nat) (vs : List Value) (ns : List Int) (hi : IntsAre vs ns) (hl : ns.length ≤ 63) :
  SpecP (fun g => g.IsList S vs.toArray) w 800 316 [.ref S] []
   (DeckR w) := by
  unfold SpecP
  have hsz : 0 = 0 := rfl
  k_fill
  intro p loose mean mg mb outer base g s R B X T hsz st N hS hret
  refine' enter_defB [(Str.ofString "script", Value.ref S)] (K := hd.heap_1 w.params) B X T hsz st N ?k1 ?k2 ?k3 ?k4 ?k5 ?_ ?c1 ?c2 ?c3 ?c4
  case k1 => k_is
  case k2 => k_is
  case k3 => exact Nat.le_of_ble_eq_true rfl
  case k4 => exact BindsTo.of_eq rfl
  case k5 => exact locs rfl
  case c1 => exact rfl
  case c2 => exact rfl
  case c3 => exact rfl
  case c4 => decide
  intro L' h' tk0 F' N' B' X' T' l1
  clear l1
  try dsimp only
  show wpAny _ _ _ _ _ _
  k_fold
  k_steps
  refine name_lst (by assumption) fun SL cs eSL ecs => ?_
  subst eSL ecs
  rename IntsAre cs _ => hc
  have hcl : cs.length ≤ 20 := by
    have h1 := hc.length
    rw [h1, List.length_take]
    omega
  generalize List.take _ ns = ms at hc
  have hcm : cs.length = ms.length := hc.length
  refine Halt.mk ?_
  refine LCg.CompSrc.ledger (by rfl) (by assumption) (by assumption) (by k_mem) (by rw [List.size_toArray, sizeLine_eq]; omega) fun g' => comp_rest (J := RsJ [(SL, listOf cs.toArray 0)]) ?_ ?_ ?_
  · exact .mk [] .nil rfl (fun _ h => nomatch h)
  · intro i v ys news I oI C oC D m₂ h tk E' hi' hv hJ hC hx F N off ne
    induction hJ with
    | mk rs hys hrl hrn =>
    obtain ⟨c, t, rfl, hc'⟩ := IntsAre.at hc i v (by simpa using hv)
    k_fold
    k_steps
    refine LCg.CompEnd.intro (by assumption) (by assumption) [(SL, listOf cs.toArray 0)] (by k_allIn) off (.inr ⟨_, by k_mem, rfl, _, rfl⟩) (.mk (rs ++ [c.fmod 1000003]) (hys.append (.cons _ _ .nil)) (by rw [List.length_append, hrl]; rfl) ?_)
    intro x hx
    rcases List.mem_append.mp hx with hx | hx
    · exact hrn x hx
    · rw [List.mem_singleton.mp hx]; exact Int.fmod_nonneg_of_pos _ (by decide)
  · intro ys news hJ D h tk F N off
    induction hJ with
    | mk rs hys hrl hrn =>
    have hrl' : rs.length ≤ 20 := by rw [hrl, List.size_toArray]; exact hcl
    k_steps
    refine Halt.mk ?_
    rename (∀ p : Addr × Obj, p ∈ _ → @LT.lt Nat _ p.1 _) => l0x
    have N0 := kst_newsOf (l' := [(D, LCg.lst ys)]) ‹News g L' _ ((_, _) :: (D, LCg.lst ys) :: _)› (List.forall_mem_singleton.mpr (.tail _ (.head _)))
    refine for_list (m := _) (adr := [D]) (J := fun _ m news => DkJ D [(D, LCg.lst ys)] m news) (by rfl) (by assumption) N0 (by assumption) (by assumption) (by assumption) (by assumption) (by assumption) ?_ ?_ (by rfl) (by rfl) ?_ ?_ ?_ ?_
    · exact List.forall_mem_singleton.mpr (l0x (D, _) (.tail _ (.head _)))
    · exact List.forall_mem_singleton.mpr (l0x (D, _) (.tail _ (.head _)))
    · intro i h' m' news' F N hJ
      induction hJ
      exact ⟨_, (N _ (.head _)).1, rfl, _, rfl⟩
    · exact .mk 1506 _ (by decide) (by kst_all)
    · clear l0x N0
      intro i v m₁ news₁ h tk own hv hJ off1 off2 F₁ N₁
      induction hJ with
      | mk mx t h0 hm =>
      obtain ⟨c, tc, rfl, hc'⟩ := IntsAre.at hys i v (by simpa using hv)
      rw [← kst_self hm] at F₁
      simp only [List.cons_append, List.nil_append] at N₁
      try dsimp only
      try k_fold
      k_steps
      refine' TurnEnd.next (by assumption) (by assumption) ?g1 ?g2 ?g3 (.mk _ _ ?h0 (by kst_all))
      case g1 => exact List.forall_mem_singleton.mpr (by k_mem)
      case g2 => exact fun q hq => by (repeat apply List.mem_cons_of_mem); exact hq
      case g3 => exact off2
      case h0 => exact Int.fmod_nonneg_of_pos _ (by decide)
    · clear l0x N0
      intro h' tk m' news' F₁ N₁ hJ
      induction hJ with
      | mk mx t h0 hm =>
      rw [← kst_self hm] at F₁
      k_steps
      refine name_of ‹_ = false› fun DK eDK => ?_
      subst eDK
      refine' hret _ _ _ _ (Fr.keep (by assumption)) (lie_of (by assumption) ?g1) (.mk _ D _ _ _ _ _ rs ?lt ‹Obj.IsDictOf _ _ _› hys hrl' hrn h0)
      case g1 => k_allIn
      case lt => omega
end
section
section
variable {prog : Program} {w : World} {A : Around} {E : Value → Shared → Prop} {s : Shared} {env : Env} {h₀ : Heap} {m : Str → Option Value} {news : List (Addr × Obj)}
theorem my_own_tupiter {elts : List Expr} {x1} {pos : Pos} {I l T : Addr} {i : Nat} {Q : Unit → Shared → Prop} (hit : s.heap.IsTupleIter I l i) (hQ : Q () s) :
    wpAny (model prog w) A (letOwnedTupleGo (.Tuple elts x1 pos) (.ref I) (.ref T)) Q E s := by
  obtain ⟨o, ho, hc, hd⟩ := hit
  unfold letOwnedTupleGo
  refine wpAny_bind (wpAny_load ho ?_)
  rw [hc, hd]
  show wpAny _ A (if (["enumerate", "zip", "dict_itemiterator", "dict_reverseitemiterator", "odict_iterator", "itertools.zip_longest", "itertools.pairwise"].contains "tuple_iterator" &&
      (#[.ref l, .int i 0] : Array Value)[0]? == some (rawInt T)) = true then _ else _) Q E s
  rw [if_neg (by
    intro h
    rw [show (["enumerate", "zip", "dict_itemiterator", "dict_reverseitemiterator", "odict_iterator", "itertools.zip_longest", "itertools.pairwise"].contains "tuple_iterator") = false from by decide, Bool.false_and] at h
    cases h)]
  exact wpAny_pure hQ
/-- a for over a tuple of tuples -/
theorem for_genT {R : Result → Shared → Prop} {elts : List Expr} {tx1} {tp : Pos} {body : List Stmt} {it l : Addr} {items : Array Value} (adr : List Addr)
    (J : Nat → (Str → Option Value) → List (Addr × Obj) → Prop)
    (hh : A.handled = none) (F : Fr h₀ env.locals s.heap m) (N : News h₀ env.locals s.heap news)
    (hit : s.heap.IsTupleIter it l 0) (hl : s.heap.IsTuple l items)
    (o2 : @LT.lt Nat _ l it) (o3 : @LT.lt Nat _ env.locals it) (n2 : h₀.get? it = none)
    (hadr : ∀ a ∈ adr, @LT.lt Nat _ a it) (hnews : ∀ p ∈ news, @LT.lt Nat _ p.1 it)
    (hrf : ∀ (i : Nat) v, items[i]? = some v → ∃ T, v = .ref T)
    (keepL : ∀ i h' m' news', Fr h₀ env.locals h' m' → News h₀ env.locals h' news' → J i m' news' → h'.IsTuple l items)
    (h0 : J 0 m news)
    (turn : ∀ i v m₁ news₁ h tk own, items[i]? = some v → J i m₁ news₁ → OwnOff own adr → OwnOff own (news₁.map (·.1)) → Fr h₀ env.locals h m₁ → News h₀ env.locals h (news₁ ++ own) →
      wpAny (model prog w) A (assign (.Tuple elts tx1 tp) env v) (fun _ s₂ => wpAny (model prog w) A (execs body env) (TurnEnd h₀ env.locals own (J (i + 1)) { s with heap := h, toks := tk } (fun v s' => R (.ok (.ret v)) s') fun s' => R (.ok .next) s') (notedBy (model prog w) A env fun e s' => R (.error e) s') s₂) (notedBy (model prog w) A env fun e s' => R (.error e) s') { s with heap := h, toks := tk })
    (done : ∀ h' tk m' news', Fr h₀ env.locals h' m' → News h₀ env.locals h' news' → J items.size m' news' → R (.ok .next) { s with heap := h', toks := tk }) :
    codeAny (model prog w) A (.forLoop (.Tuple elts tx1 tp) (.ref it) body [] env) R s := by
  have W := Walks.tuple (prog := prog) (w := w) hh it l (Nat.ne_of_lt o2) items
  have Li : env.locals ≠ it := Nat.ne_of_lt o3
  refine codeAny_forLoop_any
    (LpS s h₀ env.locals items.size (fun h' i => (h'.IsTupleIter it l i ∧ h'.IsTuple l items)) (fun a => a ≠ it) J) ?_ (items.size + 1)
    (.mk s.heap s.toks m news 0 ⟨hit, hl⟩ F N (fun p hp' => Nat.ne_of_lt (hnews p hp')) h0 (Nat.zero_le _))
  intro k s' hS
  induction hS with
  | mk H tk m' news' i hst F' N' hoff hJ hi =>
  have next : ∀ h₁ : Heap, (∀ b o, b ∉ [it] → H.get? b = some o → h₁.get? b = some o) → Fr h₀ env.locals h₁ m' ∧ News h₀ env.locals h₁ news' := fun h₁ hk =>
    ⟨⟨F'.ns.at' fun o x => hk _ o (by simp [Li]) x, fun b o x => hk b o (by
        intro hb
        rw [List.mem_singleton.mp hb, n2] at x; cases x) (F'.keep b o x), F'.above⟩,
      fun p hq => ⟨hk _ _ (by simp [hoff p hq]) (N' p hq).1, (N' p hq).2⟩⟩
  by_cases hlt : i < items.size
  · refine W.item i _ _ _ hlt hst fun v h₁ tk₁ hv hst₁ hk₁ => ?_
    obtain ⟨F₁, N₁⟩ := next h₁ hk₁
    obtain ⟨Tv, rfl⟩ := hrf i v hv
    refine my_own_tupiter hst₁.1 ?_
    obtain ⟨⟨oi, hoi, hoi'⟩, hl₁⟩ := hst₁
    have ow : ∀ b : Addr, b ≠ it → ∀ p ∈ [(it, oi)], p.1 ≠ b := fun b hb p hp' => by rw [List.mem_singleton.mp hp']; exact Ne.symm hb
    refine wpAny_mono (turn i (.ref Tv) m' news' h₁ _ [(it, oi)] hv hJ
      (fun p hp' b hb => ow b (Nat.ne_of_lt (hadr b hb)) p hp')
      (fun p hp' b hb => by
        obtain ⟨q, hq, rfl⟩ := List.mem_map.mp hb
        exact ow _ (hoff q hq) p hp') F₁ (fun p hp' => ?_)) (fun _ s₂ h₆ => wpAny_mono h₆ (fun f s₃ h₆ => ?_) fun _ _ x => x) fun _ _ x => x
    · rcases List.mem_append.mp hp' with hp' | hp'
      · exact N₁ p hp'
      · rw [List.mem_singleton.mp hp']; exact ⟨hoi, Ne.symm Li, n2⟩
    · have fin : ∀ tkx, TurnEnd h₀ env.locals [(it, oi)] (J (i + 1)) { s with heap := h₁, toks := tkx } (fun v s' => R (.ok (.ret v)) s') (fun s' => R (.ok .next) s') .next s₃ →
          ∃ k', k' < items.size + 1 - i ∧ LpS s h₀ env.locals items.size (fun h' i => (h'.IsTupleIter it l i ∧ h'.IsTuple l items)) (fun a => a ≠ it) J k' s₃ := by
        rintro tkx ⟨h₇, tk₇, m₇, news₇, rfl, F₇, N₇, hd₇, hJ₇⟩
        have g2 := (N₇ (it, oi) (List.mem_append_right _ (.head _))).1
        exact ⟨items.size + 1 - (i + 1), Nat.sub_lt_sub_left (Nat.lt_succ_of_lt hlt) (Nat.lt_succ_self i), .mk h₇ tk₇ m₇ news₇ (i + 1) ⟨⟨oi, g2, hoi'⟩, keepL (i + 1) h₇ m₇ news₇ F₇ (fun q hq => N₇ q (List.mem_append_left _ hq)) hJ₇⟩ F₇ (fun q hq => N₇ q (List.mem_append_left _ hq)) (fun q hq x => hd₇ (it, _) (.head _) q.1 (List.mem_map_of_mem hq) x.symm) hJ₇ hlt⟩
      cases f with
      | ret v => exact h₆
      | brk => exact h₆
      | cont => exact fin _ h₆
      | next => exact fin _ h₆
  · have hin : i = items.size := by omega
    subst hin
    refine W.done _ _ _ hst fun h₁ tk₁ hk₁ => wpAny_execs_nil ?_
    obtain ⟨F₁, N₁⟩ := next h₁ hk₁
    exact done h₁ tk₁ m' news' F₁ N₁ hJ
end
end
section
section
variable {prog : Program} {w : World} {A : Around} {E : Value → Shared → Prop} {s : Shared} {h₀ : Heap} {L : Addr} {m : Str → Option Value} {news : List (Addr × Obj)}
/-- a zip that was just made -/
def ZipNow (h₀ : Heap) (L : Addr) (h : Heap) (news : List (Addr × Obj)) (z : Addr) (xs ys : List Value) : Prop := ∃ TI TO i1 i2 l1 l2, ZipApart z TI TO i1 i2 l1 l2 ∧
  (IsZip h z TI TO .none ∧ IsPair h TI (.ref i1) (.ref i2) ∧ (∃ a b, IsPair h TO a b) ∧ h.IsListIter i1 l1 0 ∧ h.IsListIter i2 l2 0 ∧ h.IsList l1 xs.toArray ∧ h.IsList l2 ys.toArray) ∧
  (∀ p ∈ news, @Ne Nat p.1 z ∧ @Ne Nat p.1 TO ∧ @Ne Nat p.1 i1 ∧ @Ne Nat p.1 i2) ∧ (@Ne Nat L z ∧ @Ne Nat L TO ∧ @Ne Nat L i1 ∧ @Ne Nat L i2) ∧ (h₀.get? z = none ∧ h₀.get? TO = none ∧ h₀.get? i1 = none ∧ h₀.get? i2 = none)
theorem my_zip {Q : Value → Shared → Prop} {l1 l2 : Addr} {xs ys : List Value} {n1 n2 : Nat} (F : Fr h₀ L s.heap m) (N : News h₀ L s.heap news) (m1 : (l1, listOf xs.toArray n1) ∈ news) (m2 : (l2, listOf ys.toArray n2) ∈ news)
    (hQ : ∀ (h' : Heap) (z : Addr), Fr h₀ L h' m → News h₀ L h' news → ZipNow h₀ L h' news z xs ys → Q (.ref z) { s with heap := h' }) : wpAny (model prog w) A (call (.type "zip") [.ref l1, .ref l2]) Q E s := by
  have hl1 : s.heap.IsList l1 xs.toArray := ⟨_, (N _ m1).1, rfl, n1, rfl⟩
  have hl2 : s.heap.IsList l2 ys.toArray := ⟨_, (N _ m2).1, rfl, n2, rfl⟩
  have none_of : ∀ b, s.heap.objs.size ≤ b → h₀.get? b = none := fun b hb => by
    cases e : h₀.get? b with
    | none => rfl
    | some o => exact absurd (Heap.lt_size (F.keep b o e)) (Nat.not_lt.mpr hb)
  refine zip_rows F hl1 hl2 fun h₁ z TI TO i1 i2 D hst F₁ hk z1 z2 z3 z4 zL => ?_
  exact hQ h₁ z F₁ (N.grown hk) ⟨TI, TO, i1, i2, l1, l2, D, hst, fun p hp =>
    let hb : p.1 < s.heap.objs.size := Heap.lt_size (N p hp).1
    ⟨Nat.ne_of_lt (Nat.lt_of_lt_of_le hb z1), Nat.ne_of_lt (Nat.lt_of_lt_of_le hb z2), Nat.ne_of_lt (Nat.lt_of_lt_of_le hb z3), Nat.ne_of_lt (Nat.lt_of_lt_of_le hb z4)⟩,
    ⟨Nat.ne_of_lt zL.1, Nat.ne_of_lt zL.2.1, Nat.ne_of_lt zL.2.2.1, Nat.ne_of_lt zL.2.2.2⟩, none_of _ z1, none_of _ z2, none_of _ z3, none_of _ z4⟩
theorem my_listz {Q : Value → Shared → Prop} {z : Addr} {xs ys : List Value} (hh : A.handled = none) (F : Fr h₀ L s.heap m) (N : News h₀ L s.heap news) (Z : ZipNow h₀ L s.heap news z xs ys) (hxy : xs.length = ys.length) (hn : xs.length ≤ 100000)
    (hQ : ∀ (h' : Heap) (tk : Nat) (D : Addr) (t : List (Addr × Obj)) (fv : List Value) (c : Nat), Fr h₀ L h' m → ZObjs t fv xs ys → News h₀ L h' ((D, listOf fv.toArray c) :: (t ++ news)) → (∀ p ∈ news, @LT.lt Nat _ p.1 D) → Q (.ref D) { s with heap := h', toks := tk }) :
    wpAny (model prog w) A (call (.type "list") [.ref z]) Q E s := by
  obtain ⟨TI, TO, i1, i2, l1, l2, D, hst, hN, hL, z1, z2, z3, z4⟩ := Z
  refine z_call hh D (by simpa using hxy) (by rw [sizeLine_eq, List.size_toArray]; omega) hst fun h' tk acc c as hk' hS hlen hG hacc => ?_
  have none_of : ∀ b, s.heap.objs.size ≤ b → h₀.get? b = none := fun b hb => by
    cases e : h₀.get? b with
    | none => rfl
    | some o => exact absurd (Heap.lt_size (F.keep b o e)) (Nat.not_lt.mpr hb)
  have nn : ∀ {b b' : Addr} {o : Obj}, h₀.get? b' = none → h₀.get? b = some o → b ≠ b' := fun h1 h2 e => by rw [e, h1] at h2; cases h2
  have hLs : @LT.lt Nat _ L s.heap.objs.size := F.ns.lt
  obtain ⟨oL, es, ep, hoL, hLd, hLk, hLf⟩ := F.ns
  have F' : Fr h₀ L h' m := ⟨⟨oL, es, ep, hk' L oL hL.1 hL.2.1 hL.2.2.1 hL.2.2.2 hoL, hLd, hLk, hLf⟩, fun b o e => hk' b o (nn z1 e) (nn z2 e) (nn z3 e) (nn z4 e) (F.keep b o e), F.above⟩
  obtain ⟨t, ht, hq⟩ := zobjs_of (h := h') as xs ys (by simpa using hlen) hxy (fun j a hj => by
    obtain ⟨x, y, e1, e2, e3⟩ := hG.pairs j a hj
    exact ⟨x, y, by simpa using e1, by simpa using e2, e3⟩) hG.above
  refine hQ h' tk _ t _ c F' ht (fun q hq' => ?_) (fun p hp => Heap.lt_size (N p hp).1)
  rcases List.mem_cons.mp hq' with rfl | hq'
  · refine ⟨?_, Nat.ne_of_gt hLs, none_of _ (Nat.le_refl _)⟩
    rw [hS, ← hacc]
  · rcases List.mem_append.mp hq' with hq' | hq'
    · obtain ⟨e1, e2⟩ := hq q hq'
      exact ⟨e1, Nat.ne_of_gt (Nat.lt_trans hLs e2), none_of _ (Nat.le_of_lt e2)⟩
    · obtain ⟨n1, n2, n3, n4⟩ := hN q hq'
      exact ⟨hk' _ _ n1 n2 n3 n4 (N q hq').1, (N q hq').2⟩
/-- an item of a written list -/
theorem my_itemK {K : Frag} {value slice : PySem.Expr} {l : Addr} {dd : Option Addr} {sl : Array (Option Value)} {vs : List Value} {v : Value} {n : Nat} {k : Int} {u : Tok} {Q : Value → Shared → Prop} (F : Fr h₀ L s.heap m) (X : K.In h₀) (hl : K.lookup l = some ⟨.type "list", dd, .seq vs.toArray n, sl⟩)
    (h0 : 0 ≤ k) (h1 : k < 2 ^ 63) (hv : vs[k.toNat]? = some v) (h : Q v s)
    (hs : subscripted slice false (.ref l) (.int k u) = operate [.ref l, .int k u] (getItem (.ref l) (.int k u)) := by with_unfolding_all rfl) :
    wpAny (model prog w) A (subscriptTail value slice (.ref l) (.int k u)) Q E s := by
  have hl : s.heap.IsList l vs.toArray := ⟨_, (X.keeps F.keep) _ _ hl, rfl, n, rfl⟩
  exact tail_any hl.typeIs slot_list_getitem.lookup (wpAny_getItem_list hl h0 h1 (by simpa using hv) h) hs
end
def odat : Option Int → Dat
  | none => .none
  | some i => .int i
def pdat (p : Option Int × Str) : Dat := .tuple [odat p.1, .str p.2]
section
variable {news : List (Addr × Obj)}
theorem datIn_optV {v : Value} {o : Option Int} (h : OptV v o) : DatIn news v (odat o) := by
  cases h with
  | none => exact .none
  | some i t => exact .int i t
theorem datAll_snoc {vs : List Value} {ds : List Dat} {v : Value} {d : Dat} (h : DatAll news vs ds) (hv : DatIn news v d) : DatAll news (vs ++ [v]) (ds ++ [d]) := by
  have key : ∀ (vs : List Value) (ds : List Dat), DatAll news vs ds → DatAll news (vs ++ [v]) (ds ++ [d]) := by
    intro vs
    induction vs with
    | nil => intro ds h; cases h; exact .cons hv .nil
    | cons x r ih => intro ds h; cases h with | cons h1 h2 => exact .cons h1 (ih _ h2)
  exact key _ _ h
theorem datAll_tups {t : List (Addr × Obj)} {fv : List Value} {out : List (Option Int × Str)} (h : Tups t fv out) (hs : ∀ q ∈ t, q ∈ news) : DatAll news fv (out.map pdat) := by
  induction h with
  | nil => exact .nil
  | snoc T v o x tk _ hv ih =>
    rw [List.map_append]
    exact datAll_snoc (ih fun q hq => hs q (.tail _ hq)) (.tuple (hs _ (.head _)) (.cons (datIn_optV hv) (.cons (.str _ _) .nil)))
theorem datAll_zip {t : List (Addr × Obj)} {fv xs ys : List Value} (h : ZObjs t fv xs ys) : ∀ {out : List (Option Int × Str)}, OptsAre xs (out.map (·.1)) → StrsAre ys (out.map (·.2)) → (∀ q ∈ t, q ∈ news) → DatAll news fv (out.map pdat) := by
  induction h with
  | nil => intro out h1 _ _; cases out with
    | nil => exact .nil
    | cons _ _ => cases h1
  | cons a x y _ ih =>
    intro out h1 h2 hs
    cases out with
    | nil => cases h1
    | cons p r =>
      obtain ⟨o, c⟩ := p
      simp only [List.map_cons] at h1 h2
      cases h2 with
      | cons _ _ h2 =>
        cases h1 with
        | none h1 => exact .cons (.tuple (hs _ (.head _)) (.cons .none (.cons (.str _ _) .nil))) (ih h1 h2 fun q hq => hs q (.tail _ hq))
        | some i u h1 => exact .cons (.tuple (hs _ (.head _)) (.cons (.int _ _) (.cons (.str _ _) .nil))) (ih h1 h2 fun q hq => hs q (.tail _ hq))
end
theorem run_strs (b : Int) (ks : List Kd) : ∀ p ∈ (run b ks).2, PyData.strOk p.2 = true := by
  have key : ∀ (ks : List Kd) (p : St × List (Option Int × Str)), (∀ q ∈ p.2, PyData.strOk q.2 = true) → ∀ q ∈ (ks.foldl (fun p k => (stepS k p.1, p.2 ++ [outS b k (stepS k p.1)])) p).2, PyData.strOk q.2 = true := by
    intro ks
    induction ks with
    | nil => intro p h; exact h
    | cons k r ih =>
      intro p h
      rw [List.foldl_cons]
      refine ih _ fun q hq => ?_
      rcases List.mem_append.mp hq with hq | hq
      · exact h q hq
      · rw [List.mem_singleton.mp hq]
        cases k <;> (show PyData.strOk (Str.ofString _) = true) <;> decide +kernel
  exact key ks _ fun _ h => nomatch h
theorem ok_run (b : Int) (ks : List Kd) : ∀ d ∈ (run b ks).2.map pdat, kqdOk 8 d = true := fun d hd => by
  obtain ⟨p, hp, rfl⟩ := List.mem_map.mp hd
  have h1 := run_strs b ks p hp
  obtain ⟨o, c⟩ := p
  unfold pdat
  cases o <;> simp only [odat, kqdOk, List.all_cons, List.all_nil, Bool.and_true, Bool.true_and] <;> exact h1
/-- the first strong letter, where a separator stands at the end at most -/
theorem fs_letters : ∀ ks : List Kd, (∀ k ∈ ks, k ≠ .B) → fs ks = (lettersOf ks).head? ∧ fs (ks ++ [.B]) = (lettersOf (ks ++ [.B])).head?
  | [], _ => ⟨rfl, rfl⟩
  | k :: r, h => by
    have ih := fs_letters r fun x hx => h x (.tail _ hx)
    cases k with
    | B => exact absurd rfl (h .B (.head _))
    | L => exact ⟨rfl, rfl⟩
    | R => exact ⟨rfl, rfl⟩
    | RLE => exact ih
    | LRE => exact ih
    | PDF => exact ih
theorem base_of_fs {ks : List Kd} (h : fs ks = (lettersOf ks).head?) (wd : Wd) : baseOf ks wd = lbOf ks wd := by
  cases wd with
  | ltr => rfl
  | rtl => rfl
  | auto =>
    unfold baseOf lbOf
    rw [h]
    dsimp only
    cases lettersOf ks with
    | nil => rfl
    | cons k r => cases k <;> rfl
theorem base_eq {ks : List Kd} (h : ∀ k ∈ ks, k ≠ .B) (wd : Wd) : baseOf ks wd = lbOf ks wd := base_of_fs (fs_letters ks h).1 wd
theorem base_eqB {ks : List Kd} (h : ∀ k ∈ ks, k ≠ .B) (wd : Wd) : baseOf (ks ++ [.B]) wd = lbOf (ks ++ [.B]) wd := base_of_fs (fs_letters ks h).2 wd
theorem paras_spec3 (w : World) (d : DT w) (TX n : Nat) (vs : List Value) (f b : List Kd) (wd : Wd) (tw : Tok) (hf : ∀ k ∈ f, k ≠ .B) (hs : ∀ k ∈ b, k ≠ .B) (hs0 : b ≠ []) (hi : IntsAre vs ((f ++ .B :: b).map tx)) (hlen : (f ++ .B :: b).length ≤ 900)
  (hTX : ∀ a ∈ [d.D, d.dD, d.M, d.RM, d.dR, d.St, d.Vl], NE a TX) :
  Spec w 600 200 [.ref TX, .ref d.D, .str wd.nm tw] ((TX, listOf vs.toArray n) :: d.rel)
   (ParasR w wd f b TX n vs) := by
  unfold Spec
  k_fill
  exact paras_spec w d TX n vs f b wd tw 196 _ hf hs hs0 hi hlen hTX (fun s fd oc od osl hl hK => by
    cases hl
    exact binds_K hK rfl (by k_is) rfl rfl rfl)
end
section
def LawLit : { x : List Stmt × Scope // ∀ w : World, ∃ oc od osl name qual params dV kV doc pm an cdv ct, (hd.heap_1 w.params).lookup 340 = some ⟨oc, od, .func (fnOf name qual params x.1 x.2 dV kV doc pm an cdv ct), osl⟩ } := by
  refine' ⟨(_, _), fun w => ⟨_, _, _, _, _, _, _, _, _, _, _, _, _, ?h⟩⟩
  case h => exact rfl
def lawBody : List Stmt := LawLit.1.1
def lawScope : Scope := LawLit.1.2
abbrev LE (L fa : Addr) (cdv : Value) : Env := envOfC (Str.ofString "law") lawScope L fa cdv
end
section
/-- the deck between two draws -/
def DeckOk (w : World) (DK LF : Nat) (oD oL : Obj) : Prop := LF < DK ∧ ∃ (mx : Int) (tm : Tok) (vs : List Value) (ns : List Int) (n : Nat), DeckD w oD LF mx tm ∧ oL = listOf vs.toArray n ∧ IntsAre vs ns ∧ ns.length ≤ 20 ∧ (∀ x ∈ ns, 0 ≤ x) ∧ 0 ≤ mx
theorem use_draw {w : World} {A A₀ : Around} {E : Value → Shared → Prop} {Q : Value → Shared → Prop} {p : Program} {loose : List Str} {mean : ExcName → Option Value} {mg mb : Str → Option Value} {env : Env} {outer : List Env} {base h₀ : Heap} {L : Addr} {m : Str → Option Value} {s : Shared} {news : List (Addr × Obj)}
    {DK LF : Nat} {oD oL : Obj} {g1 : Obj → List (Addr × Obj)} {g2 : Obj → Obj → List (Addr × Obj)} {many : Int} {ty : Tok}
    (B : PyProof.Rows.Below A₀ base outer h₀) (F : Fr h₀ L s.heap m) (X : (hd.heap_1 w.params).In h₀) (N : News h₀ L s.heap news) (T : Top p loose mean mg mb h₀)
    (U1 : UpdF DK oD news g1) (U2 : ∀ o', UpdF LF oL (g1 o') (g2 o')) (hd : DeckOk w DK LF oD oL) (hy : 0 < many)
    (hA : A.frames = some (env :: outer)) (hf : env.frame = some L) (hke : env.scope.kind = .function) (hh : A.handled = none) (hg : A.guards = some []) (hdp : A.depth ≤ 800) (hu : A.units ≤ 10 * 800)
    (k : ∀ r t oD' oL' h' tk', Fr h₀ L h' m → News h₀ L h' (g2 oD' oL') → DeckOk w DK LF oD' oL' → 0 ≤ r → r < many → Q (.int r t) { s with heap := h', toks := tk' }) :
    wpAny (model PySem.Challenge.rw_hb0008_01.row.prog w) A (call (.ref 323) [.ref DK, .int many ty]) Q E s := by
  obtain ⟨hlt, mx, tm, vs, ns, n, hD, rfl, hs, hl, hn, hm0⟩ := hd
  obtain ⟨pre, post, rfl, hg1, a1, a2⟩ := U1.split
  obtain ⟨pre2, post2, e2, hg2, b1, b2⟩ := (U2 oD).split
  rw [hg1] at e2
  have mD : (DK, oD) ∈ pre ++ (DK, oD) :: post := List.mem_append_right _ (.head _)
  have mL : (LF, listOf vs.toArray n) ∈ pre ++ (DK, oD) :: post := by rw [e2]; exact List.mem_append_right _ (.head _)
  refine use_call B F X N T (draw_spec w DK LF n oD mx many tm ty vs ns hD hs hl hn hm0 hy hlt) hA hf hke hh hg hdp hu (fa_cons (mD) (List.forall_mem_singleton.mpr mL)) fun v h' tk' rel' F' N' D' hR => ?_
  obtain ⟨r, t, oD', mx', tm', vs', ns', n', rfl, r0, r1, hD', hs', hl', hn', hm', rfl⟩ := hR
  refine k r t oD' (listOf vs'.toArray n') h' tk' F' (N' _ fun q hq => ?_) ⟨hlt, mx', tm', vs', ns', n', hD', rfl, hs', hl', hn', hm'⟩ r0 r1
  obtain ⟨pre3, post3, e3, hg3, f1, f2⟩ := (U2 oD').split
  rw [hg3] at hq
  have key : ∀ q, q ∈ g1 oD' → q.1 ≠ LF → q ∈ [(DK, oD'), (LF, listOf vs'.toArray n')] ∨ (q ∈ pre ++ (DK, oD) :: post ∧ ∀ r ∈ [(DK, oD), (LF, listOf vs.toArray n)], q.1 ≠ r.1) := by
    intro q hq hne
    rw [hg1] at hq
    rcases List.mem_append.mp hq with hq | hq
    · exact .inr ⟨List.mem_append_left _ hq, fa_cons (a1 q hq) (List.forall_mem_singleton.mpr hne)⟩
    · rcases List.mem_cons.mp hq with rfl | hq
      · exact .inl (.head _)
      · exact .inr ⟨List.mem_append_right _ (.tail _ hq), fa_cons (a2 q hq) (List.forall_mem_singleton.mpr hne)⟩
  rcases List.mem_append.mp hq with hq | hq
  · exact key q (by rw [e3]; exact List.mem_append_left _ hq) (f1 q hq)
  · rcases List.mem_cons.mp hq with rfl | hq
    · exact .inl (.tail _ (.head _))
    · exact key q (by rw [e3]; exact List.mem_append_right _ (.tail _ hq)) (f2 q hq)
end
section
local macro_rules | `(tactic| walk_at "call ref") => `(tactic| (k_here; (with_reducible show wpAny _ _ (call (Value.ref 328) _) _ _ _); k_dflt (refine' use_rfa (lbase_spec _ _ _ _ _ _ _ ?hi ?hlen) ?_ (hrel := by exact List.forall_mem_singleton.mpr (by k_mem)); (case hi => assumption); (case hlen => assumption)); intro h' tk' t' F' N'))
local macro_rules | `(tactic| walk_at "exec For Tuple Tuple cons nil") => `(tactic| (k_here; refine wpAny_For ?_ ?hs; (case hs => intro _; with_unfolding_all rfl)))
local macro_rules | `(tactic| walk_at "pyIter ref") => `(tactic| (k_here; k_dflt (refine' my_iter_tuple (by k_asm) (by k_asm) (by exact ⟨_, (News.get (by k_asm) (by k_mem)), rfl, _, rfl⟩) ?_; k_whole); intro h' it' F' N' hit' hl' o2' o3' l1' n2'; (have l0' := l1'); (try k_lt l1')))
local macro_rules | `(tactic| walk_at "compareOp NotEq ref ref") => `(tactic| (k_here; (with_reducible show wpAny _ _ (compareOp CmpOp.NotEq (Value.ref _) (Value.ref _)) _ _ _); refine Halt.out ?_))
local macro_rules | `(tactic| walk_at "call type:zip") => `(tactic| (k_here; (with_reducible show wpAny _ _ (call (Value.type _) [Value.ref _, Value.ref _]) _ _ _); k_dflt (refine' my_zip (by k_asm) (by k_asm) (by k_mem) (by k_mem) ?_); intro h' z' F' N' Z'))
section
variable {prog : Program} {w : World} {A : Around} {E : Value → Shared → Prop} {s : Shared} {h₀ : Heap} {L : Addr} {m : Str → Option Value} {news : List (Addr × Obj)}
theorem my_listz' {Q : Value → Shared → Prop} {z : Addr} {xs ys : List Value} (hh : A.handled = none) (F : Fr h₀ L s.heap m) (N : News h₀ L s.heap news) (Z : ZipNow h₀ L s.heap news z xs ys) (hxy : xs.length = ys.length) (hn : xs.length ≤ 100000)
    (hQ : ∀ (h' : Heap) (tk : Nat) (D : Addr) (t : List (Addr × Obj)) (fv : List Value) (c : Nat), Fr h₀ L h' m → ZObjs t fv xs ys → News h₀ L h' ((D, listOf fv.toArray c) :: (news ++ t)) → (∀ p ∈ news, @LT.lt Nat _ p.1 D) → Q (.ref D) { s with heap := h', toks := tk }) :
    wpAny (model prog w) A (call (.type "list") [.ref z]) Q E s :=
  my_listz hh F N Z hxy hn fun h' tk D t fv c F' ht N' l => hQ h' tk D t fv c F' ht (fun q hq => N' q (by
    rcases List.mem_cons.mp hq with rfl | hq
    · exact .head _
    · exact .tail _ (List.mem_append.mpr (List.mem_append.mp hq).symm))) l
theorem off1_mem {D : Addr} : ∀ {l : List (Addr × Obj)}, LCg.Off1 D l → ∀ p ∈ l, @Ne Nat p.1 D
  | [], _, _, h => nomatch h
  | _ :: _, h, p, hp => by
    rcases List.mem_cons.mp hp with rfl | hp
    · exact h.1
    · exact off1_mem h.2 p hp
end
local macro_rules | `(tactic| walk_at "subscriptTail") => `(tactic| (k_here; (with_reducible show wpAny _ _ (subscriptTail _ _ (Value.ref _) (Value.int _ _)) _ _ _); k_dflt (refine' my_itemK (by k_asm) (by k_asm) (by k_is) (by decide) (by decide) (by rfl) ?_ (by with_unfolding_all rfl)); k_whole))
theorem PT.two {w : World} {wd : Wd} {p1 p2 : Nat × List Kd} {fs : List Value} {t : List (Addr × Obj)} (h : PT w wd [p1, p2] fs t) : ∃ A1 A2 l1 l2, fs = [.ref A1, .ref A2] ∧ t = l2 ++ l1 ∧ ParaIs w wd A1 p1.1 p1.2 l1 ∧ ParaIs w wd A2 p2.1 p2.2 l2 := by
  have k0 : ∀ ps fs t, PT w wd ps fs t → ps = [] → fs = [] ∧ t = [] := by
    intro ps fs t h e
    cases h with
    | nil => exact ⟨rfl, rfl⟩
    | snoc A _ _ => exact absurd e (by simp)
  have k1 : ∀ ps fs t, PT w wd ps fs t → ps = [p1] → ∃ A1, fs = [.ref A1] ∧ ParaIs w wd A1 p1.1 p1.2 t := by
    intro ps fs t h e
    cases h with
    | nil => cases e
    | snoc A h1 h2 =>
      obtain ⟨e1, e2⟩ := List.append_inj' (s₂ := []) (t₂ := [p1]) e rfl
      obtain ⟨rfl, rfl⟩ := k0 _ _ _ h1 e1
      cases e2
      exact ⟨A, rfl, by rw [List.append_nil]; exact h2⟩
  have k2 : ∀ ps fs t, PT w wd ps fs t → ps = [p1, p2] → ∃ A1 A2 l1 l2, fs = [.ref A1, .ref A2] ∧ t = l2 ++ l1 ∧ ParaIs w wd A1 p1.1 p1.2 l1 ∧ ParaIs w wd A2 p2.1 p2.2 l2 := by
    intro ps fs t h e
    cases h with
    | nil => cases e
    | snoc A h1 h2 =>
      obtain ⟨e1, e2⟩ := List.append_inj' (s₂ := [p1]) (t₂ := [p2]) e rfl
      obtain ⟨A1, rfl, h3⟩ := k1 _ _ _ h1 e1
      cases e2
      exact ⟨A1, A, _, _, rfl, rfl, h3, h2⟩
  exact k2 _ _ _ h rfl
theorem ne21 {w : World} {d : DT w} {FS SC TX : Nat} {C : Prop} (h : ∀ a ∈ [d.D, d.dD, d.M, d.RM, d.dR, d.St, d.Vl], NE a FS ∧ NE a SC ∧ NE a TX)
  (k : NE d.D FS → NE d.D SC → NE d.D TX → NE d.dD FS → NE d.dD SC → NE d.dD TX → NE d.M FS → NE d.M SC → NE d.M TX → NE d.RM FS → NE d.RM SC → NE d.RM TX → NE d.dR FS → NE d.dR SC → NE d.dR TX → NE d.St FS → NE d.St SC → NE d.St TX → NE d.Vl FS → NE d.Vl SC → NE d.Vl TX → C) : C := by
  simp only [List.forall_mem_cons, List.not_mem_nil, false_implies, implies_true, and_true] at h
  exact k h.1.1 h.1.2.1 h.1.2.2 h.2.1.1 h.2.1.2.1 h.2.1.2.2 h.2.2.1.1 h.2.2.1.2.1 h.2.2.1.2.2 h.2.2.2.1.1 h.2.2.2.1.2.1 h.2.2.2.1.2.2 h.2.2.2.2.1.1 h.2.2.2.2.1.2.1 h.2.2.2.2.1.2.2 h.2.2.2.2.2.1.1 h.2.2.2.2.2.1.2.1 h.2.2.2.2.2.1.2.2 h.2.2.2.2.2.2.1 h.2.2.2.2.2.2.2.1 h.2.2.2.2.2.2.2.2
inductive PT2 (w : World) (wd : Wd) (p1 p2 : Nat × List Kd) : List Value → List (Addr × Obj) → Prop
  | mk (A1 A2 : Nat) (l1 l2 : List (Addr × Obj)) : ParaIs w wd A1 p1.1 p1.2 l1 → ParaIs w wd A2 p2.1 p2.2 l2 → PT2 w wd p1 p2 [.ref A1, .ref A2] (l2 ++ l1)
theorem PT.two' {w : World} {wd : Wd} {p1 p2 : Nat × List Kd} {fs : List Value} {t : List (Addr × Obj)} (h : PT w wd [p1, p2] fs t) : PT2 w wd p1 p2 fs t := by
  obtain ⟨A1, A2, l1, l2, rfl, rfl, h1, h2⟩ := PT.two h
  exact .mk A1 A2 l1 l2 h1 h2
inductive ParR2 (w : World) (wd : Wd) (f b : List Kd) (TX n : Nat) (vs : List Value) : Value → List (Addr × Obj) → Prop
  | mk (F0 nF A1 A2 : Nat) (l1 l2 : List (Addr × Obj)) : ParaIs w wd A1 0 (f ++ [.B]) l1 → ParaIs w wd A2 (f.length + 1) b l2 → ParR2 w wd f b TX n vs (.ref F0) ((F0, listOf [Value.ref A1, Value.ref A2].toArray nF) :: (TX, listOf vs.toArray n) :: (l2 ++ l1))
theorem ParasR.two {w : World} {wd : Wd} {f b : List Kd} {TX n : Nat} {vs : List Value} {v : Value} {rel : List (Addr × Obj)} (h : ParasR w wd f b TX n vs v rel) : ParR2 w wd f b TX n vs v rel := by
  cases h with
  | mk F0 nF fs tail hP =>
  cases PT.two' hP with
  | mk A1 A2 l1 l2 h1 h2 => exact .mk F0 nF A1 A2 l1 l2 h1 h2
abbrev tupL (a b : Nat) (i : Int) (t : Tok) : Obj := { cls := .type "tuple", data := .seq #[Value.ref a, Value.ref b, Value.int i t] }
/-- the three of a turn -/
inductive StT (w : World) (wd : Wd) (f b : List Kd) (news : List (Addr × Obj)) : Value → Prop
  | mk (T A NB nb b0 : Nat) (tb : Tok) (nv : List Value) (ks : List Kd) (l : List (Addr × Obj)) : (T, tupL A NB (b0 : Int) tb) ∈ news → ParaIs w wd A b0 ks l → (∀ q ∈ l, q ∈ news) → (NB, listOf nv.toArray nb) ∈ news → IntsAre nv (ks.map Kd.num) →
     (((f ++ Kd.B :: b).map tx).drop b0).take ks.length = ks.map tx → b0 + ks.length ≤ 900 → baseOf ks wd = lbOf ks wd → StT w wd f b news (.ref T)
theorem st_turn {w : World} {wd : Wd} {f b : List Kd} {T1 T2 A1 A2 FS SC nf ns i : Nat} {ta tb : Tok} {fv sv : List Value} {l1 l2 news : List (Addr × Obj)} {v : Value} (hlen : (f ++ Kd.B :: b).length ≤ 900) (hfv : IntsAre fv ((f ++ [Kd.B]).map Kd.num)) (hsv : IntsAre sv (b.map Kd.num)) (hf : ∀ k ∈ f, k ≠ Kd.B) (hs : ∀ k ∈ b, k ≠ Kd.B)
  (hP1 : ParaIs w wd A1 0 (f ++ [.B]) l1) (hP2 : ParaIs w wd A2 (f.length + 1) b l2) (m1 : (T1, tupL A1 FS 0 ta) ∈ news) (m2 : (T2, tupL A2 SC ((f.length + 1 : Nat) : Int) tb) ∈ news) (m3 : (FS, listOf fv.toArray nf) ∈ news) (m4 : (SC, listOf sv.toArray ns) ∈ news) (m5 : ∀ q ∈ l2 ++ l1, q ∈ news)
  (hv : #[Value.ref T1, Value.ref T2][i]? = some v) : StT w wd f b news v := by
  have hlen2 : (f ++ Kd.B :: b).length = f.length + (b.length + 1) := by rw [List.length_append, List.length_cons]
  rcases i with _ | _ | i
  · rw [show v = Value.ref T1 by simpa using hv.symm]
    refine .mk T1 A1 FS nf 0 ta fv (f ++ [Kd.B]) l1 m1 hP1 (fun q hq => m5 q (List.mem_append_right _ hq)) m3 hfv ?_ ?_ (base_eqB hf wd)
    · rw [List.drop_zero, ← List.map_take]; congr 1; rw [List.take_append, List.take_of_length_le (by simp), show (f ++ [Kd.B]).length - f.length = 1 by simp]; rfl
    · simp; omega
  · rw [show v = Value.ref T2 by simpa using hv.symm]
    refine .mk T2 A2 SC ns (f.length + 1) tb sv b l2 m2 hP2 (fun q hq => m5 q (List.mem_append_left _ hq)) m4 hsv ?_ ?_ (base_eq hs wd)
    · rw [← List.map_drop, ← List.map_take]; congr 1; rw [List.drop_append, List.drop_of_length_le (by omega), show f.length + 1 - f.length = 1 by omega]; simp
    · omega
  · simp at hv
theorem stageC (w : World) (p : Program) (loose : List Str) (mean : ExcName → Option Value) (mg mb : Str → Option Value) (base g : Heap) (L fa : Addr) (cdv : Value) (s : Shared) (Q : Flow → Shared → Prop) (E : Value → Shared → Prop) (m : Str → Option Value)
  (d : DT w) (TX SC FS n nf ns : Nat) (tv fv sv : List Value) (f b : List Kd) (wd : Wd) (tw : Tok)
  (hi : IntsAre tv ((f ++ Kd.B :: b).map tx)) (hfv : IntsAre fv ((f ++ [Kd.B]).map Kd.num)) (hsv : IntsAre sv (b.map Kd.num)) (hf : ∀ k ∈ f, k ≠ Kd.B) (hs : ∀ k ∈ b, k ≠ Kd.B) (hs0 : b ≠ []) (hlen : (f ++ Kd.B :: b).length ≤ 900)
  (hFS : ∀ a ∈ [d.D, d.dD, d.M, d.RM, d.dR, d.St, d.Vl], NE a FS ∧ NE a SC ∧ NE a TX) (hSC : NE FS TX) (hTX : NE SC TX)
  (hm : ∀ q ∈ [(Str.ofString "data", Value.ref d.D), (Str.ofString "word", .str wd.nm tw), (Str.ofString "first", Value.ref FS), (Str.ofString "second", Value.ref SC), (Str.ofString "text", Value.ref TX)], m q.1 = some q.2) :
  PyProof.Rows.Below callerA base [] g → (hd.heap_1 w.params).In g → Top p loose mean mg mb g → Fr g L s.heap m → News g L s.heap ((TX, listOf tv.toArray n) :: (SC, listOf sv.toArray ns) :: (FS, listOf fv.toArray nf) :: d.rel) →
  (∀ h' tk' m', Fr g L h' m' → Q (.ret (.bool true)) { s with heap := h', toks := tk' }) →
  wpAny (model PySem.Challenge.rw_hb0008_01.row.prog w) (callerA.deeper (LE L fa cdv)) (execs (lawBody.drop 7) (LE L fa cdv)) Q E s := by
  k_fill
  intro B X T F N hQ
  dsimp only [LE, lawBody, lawScope, LawLit, List.drop]
  dsimp only [DT.rel] at N
  refine ne21 hFS ?_
  intro x1 y1 z1 x2 y2 z2 x3 y3 z3 x4 y4 z4 x5 y5 z5 x6 y6 z6 x7 y7 z7
  rw [← kst_self hm] at F
  try k_fold
  k_steps
  refine Halt.mk ?_
  have hlen2 : (f ++ Kd.B :: b).length = f.length + (b.length + 1) := by rw [List.length_append, List.length_cons]
  have hfl : fv.length = f.length + 1 := by have := hfv.length; rw [this]; simp
  refine' use_call ?B ?F ?X ?N ?T (paras_spec3 w d TX n tv f b wd tw hf hs hs0 hi hlen ?hTX) ?hA ?hf ?hke ?hh ?hg ?hd ?hu ?hrel ?_
  case hA => exact rfl
  case hf => exact rfl
  case hke => exact rfl
  case B => k_asm
  case F => k_asm
  case X => k_asm
  case N => k_asm
  case T => k_asm
  case hh => exact rfl
  case hg => exact rfl
  case hd => exact Nat.le_of_ble_eq_true rfl
  case hu => exact Nat.le_of_ble_eq_true rfl
  case hrel => dsimp only [DT.rel]; k_allIn
  case hTX => exact fun a ha => (hFS a ha).2.2
  intro v' h' tk' rel' F' N' D' hR
  have hR2 := hR.two
  clear hR
  revert N' D'
  induction hR2 with
  | mk F0 nF A1 A2 l1 l2 hP1 hP2 =>
  intro N' D'
  have mS : ∀ r ∈ ((TX, listOf tv.toArray n) :: d.rel), SC ≠ r.1 := by dsimp only [DT.rel]; k_all
  have mF : ∀ r ∈ ((TX, listOf tv.toArray n) :: d.rel), FS ≠ r.1 := by dsimp only [DT.rel]; k_all
  have N2 := N' ((F0, listOf [Value.ref A1, Value.ref A2].toArray nF) :: (TX, listOf tv.toArray n) :: (SC, listOf sv.toArray ns) :: (FS, listOf fv.toArray nf) :: (l2 ++ l1)) (by
    refine fa_cons (.inl (.head _)) (fa_cons (.inl (.tail _ (.head _))) (fa_cons (.inr ⟨by k_mem, mS⟩) (fa_cons (.inr ⟨by k_mem, mF⟩) (fun q hq => .inl (.tail _ (.tail _ hq)))))))
  clear N' D' mS mF
  have hF2 : [Value.ref A1, Value.ref A2].length = 2 := rfl
  generalize hRR : l2 ++ l1 = R at N2
  k_steps
  refine Halt.mk ?_
  rename_i T1 _ _ T2 _ _ TT _ _ _ _ _ _ _ _ _ _ _ _ _ _ _
  rename (∀ p : Addr × Obj, p ∈ _ → @LT.lt Nat _ p.1 _) => l0x
  rename News g L _ ((TT, _) :: (T2, _) :: (T1, _) :: _) => NN
  obtain ⟨N0, hN0⟩ : ∃ t, t = ((TT, ({ cls := .type "tuple", data := .seq #[Value.ref T1, Value.ref T2] } : Obj)) :: (T2, { cls := .type "tuple", data := .seq #[Value.ref A2, Value.ref SC, Value.int ((f.length + 1 : Nat) : Int) _] }) :: (T1, { cls := .type "tuple", data := .seq #[Value.ref A1, Value.ref FS, Value.int 0 _] }) :: (F0, listOf [Value.ref A1, Value.ref A2].toArray nF) :: (TX, listOf tv.toArray n) :: (SC, listOf sv.toArray ns) :: (FS, listOf fv.toArray nf) :: R : List (Addr × Obj)) ∧ News g L _ t := ⟨_, rfl, NN⟩
  obtain ⟨hN0, NN0⟩ := hN0
  have hT : ∀ (i : Nat) (v : Value), #[Value.ref T1, Value.ref T2][i]? = some v → StT w wd f b N0 v := fun i v hv => st_turn (l1 := l1) (l2 := l2) hlen hfv hsv hf hs hP1 hP2 (by rw [hN0]; exact .tail _ (.tail _ (.head _))) (by rw [hN0]; exact .tail _ (.head _)) (by rw [hN0]; k_mem) (by rw [hN0]; k_mem) (by rw [hN0]; exact fun q hq => by (repeat apply List.mem_cons_of_mem); rw [← hRR]; exact hq) hv
  refine for_genT (m := _) (adr := []) (J := fun i m news => (∀ q ∈ [(Str.ofString "word", Value.str wd.nm tw), (Str.ofString "text", Value.ref TX)], m q.1 = some q.2) ∧ news = N0) (by rfl) (by assumption) NN0 (by assumption) (by assumption) (by assumption) (by assumption) (by assumption) ?_ ?_ ?_ ?_ ?_ ?_ ?_
  · exact fun _ h => nomatch h
  · rw [hN0]; exact l0x
  · intro i v hv
    cases hT i v hv with
    | mk T => exact ⟨T, rfl⟩
  · rintro i h' m' news' F N ⟨hm, rfl⟩
    exact ⟨_, (N (TT, _) (by rw [hN0]; exact .head _)).1, rfl, _, rfl⟩
  · exact ⟨by kst_all, rfl⟩
  · clear l0x
    rintro i v m₁ news₁ h tk own hv ⟨hm, rfl⟩ off1 off2 F₁ N₁
    have hv' := hT i v hv
    clear hv hT
    induction hv' with
    | mk T A NB nb b0 tb nv ks l hTm hPi hlR hNB hnv hkx hkl hbase =>
    have hTX' : (TX, listOf tv.toArray n) ∈ news₁ := by rw [hN0]; k_mem
    clear hN0 NN0 hP1 hP2 hfv hsv hRR
    obtain ⟨R', hR'⟩ : ∃ R', R' = news₁ ++ own := ⟨_, rfl⟩
    have sN : ∀ q ∈ news₁, q ∈ R' := fun q hq => hR' ▸ List.mem_append_left _ hq
    have sO : ∀ q ∈ own, q ∈ R' := fun q hq => hR' ▸ List.mem_append_right _ hq
    rw [← hR'] at N₁
    cases hPi with
    | mk dA CX K Lv Cl nx nk nl nc t1 t2 t3 t4 t5 t6 t7 tb1 te tq cs ws lvs cls hc hk hL hC =>
    rw [hbase] at hL hC hlR
    clear hbase
    have N₂ := kst_newsOf (l' := (T, ({ cls := .type "tuple", data := .seq #[Value.ref A, Value.ref NB, Value.int (b0 : Int) tb] } : Obj)) :: (A, instObj 188 dA) :: (dA, paraD w t1 t2 t3 t4 t5 t6 t7 (.int b0 tb1) (.int ((b0 : Int) + ks.length) te) CX (.int (lbOf ks wd) tq) K Lv Cl) :: (CX, listOf cs.toArray nx) :: (K, listOf ws.toArray nk) :: (Lv, listOf lvs.toArray nl) :: (Cl, listOf cls.toArray nc) :: (NB, listOf nv.toArray nb) :: (TX, listOf tv.toArray n) :: R') N₁ (by
      refine fa_cons (sN _ hTm) (fa_cons (sN _ (hlR _ (.head _))) (fa_cons (sN _ (hlR _ (.tail _ (.head _)))) (fa_cons (sN _ (hlR _ (by k_mem))) (fa_cons (sN _ (hlR _ (by k_mem))) (fa_cons (sN _ (hlR _ (by k_mem))) (fa_cons (sN _ (hlR _ (by k_mem))) (fa_cons (sN _ hNB) (fa_cons (sN _ hTX') (fun q hq => hq))))))))))
    clear N₁ hTm hlR hNB hTX'
    have hnvl : nv.length = ks.length := by have := hnv.length; rwa [List.length_map] at this
    have hwl : ws.length = ks.length := by have := hk.length; rwa [List.length_map] at this
    have hcsl : cs.length = ks.length := by have := hc.length; rwa [List.length_map] at this
    have hk900 : ks.length ≤ 900 := by omega
    have hk1000 : ks.length ≤ 1000 := by omega
    rw [← kst_self hm] at F₁
    try k_fold
    k_steps
    refine Halt.mk ?_
    rename News g L _ ((T, _) :: _) => NN
    obtain ⟨M0, hM0, NM⟩ : ∃ t, t = _ ∧ News g L _ t := ⟨_, rfl, NN⟩
    have mNB : (NB, listOf nv.toArray nb) ∈ M0 := by rw [hM0]; k_mem
    clear NN
    refine LCg.CompSrc.ledger (by rfl) (by assumption) NM mNB (by rw [List.size_toArray, sizeLine_eq]; omega) fun g' => comp_rest (J := fun i ys news => CpJ M0 (StrsAre ys ((ks.take i).map Kd.nm)) news) ?_ ?_ ?_
    · exact .mk (by simpa using StrsAre.nil)
    · intro i v ys news I oI C oC D m₂ h tk E' hi' hv hJ hC' hx F N off ne
      induction hJ with
      | mk hys =>
      obtain ⟨c, t, rfl, hc'⟩ := IntsAre.at hnv i v (by simpa using hv)
      rw [List.getElem?_map] at hc'
      obtain ⟨k, hkk, rfl⟩ : ∃ k, ks[i]? = some k ∧ c = k.num := by
        cases e : ks[i]? with
        | none => rw [e] at hc'; cases hc'
        | some k => rw [e] at hc'; exact ⟨k, rfl, (Option.some.inj hc').symm⟩
      have hout : ∀ y t, y = Value.str k.nm t → StrsAre (ys ++ [y]) ((ks.take (i + 1)).map Kd.nm) := fun y t e => by
        rw [e, List.take_add_one, hkk, List.map_append]
        exact StrsAre.append' hys (.cons _ _ .nil)
      cases k <;> dsimp only [Kd.num] at hx
      all_goals
        try k_fold
        k_steps
        refine LCg.CompEnd.intro (by assumption) (by assumption) M0 (fun q hq => hq) off (.inr ⟨_, by k_mem, rfl, _, rfl⟩) (.mk (hout _ _ rfl))
    · intro ys news hJ D h tk F N off
      induction hJ with
      | mk hys =>
      rw [List.size_toArray, hnvl, List.take_length] at hys
      rw [hM0] at N
      k_steps
      refine Halt.mk ?_
      refine my_ne_same (xs := [_, _, _]) (ys := [_, _, _]) (ds := [(b0 : Int), (b0 : Int) + ks.length, lbOf ks wd].map Dat.int) (by assumption) (by k_mem) (datAll_ints (.cons _ _ (.cons _ _ (.cons _ _ .nil)))) (by k_mem) (datAll_ints (.cons _ _ (.cons _ _ (.cons _ _ .nil)))) (ok_ints _) (by first | units_room | exact Nat.le_of_ble_eq_true rfl) ?_
      k_steps
      refine Halt.mk ?_
      rename_i SL zs _ _ _ _ _ _ _
      rename IntsAre zs _ => hc0
      have hzs : IntsAre zs (ks.map tx) := cut_ints hkx ▸ hc0
      clear hc0
      refine my_ne_same (xs := cs) (ys := zs) (ds := (ks.map tx).map Dat.int) (by assumption) (by k_mem) (datAll_ints hc) (by k_mem) (datAll_ints hzs) (ok_ints _) (by first | units_room | exact Nat.le_of_ble_eq_true rfl) ?_
      clear hzs
      rename News g L _ ((SL, _) :: _) => NN
      have N4 := kst_newsOf (l' := (D, LCg.lst ys) :: (A, instObj 188 dA) :: (dA, paraD w t1 t2 t3 t4 t5 t6 t7 (.int b0 tb1) (.int ((b0 : Int) + ks.length) te) CX (.int (lbOf ks wd) tq) K Lv Cl) :: (K, listOf ws.toArray nk) :: (Lv, listOf lvs.toArray nl) :: (Cl, listOf cls.toArray nc) :: R') NN (by
        refine fa_cons (by k_mem) (fa_cons (by k_mem) (fa_cons (by k_mem) (fa_cons (by k_mem) (fa_cons (by k_mem) (fa_cons (by k_mem) (fun q hq => by (repeat apply List.mem_cons_of_mem); exact hq)))))))
      clear NN
      k_steps
      refine Halt.mk ?_
      refine my_ne_same (xs := ws) (ys := ys) (ds := (ks.map Kd.nm).map Dat.str) (by assumption) (by k_mem) (datAll_strs hk) (by k_mem) (datAll_strs hys) (ok_kinds _) (by first | units_room | exact Nat.le_of_ble_eq_true rfl) ?_
      k_steps
      refine Halt.mk ?_
      rw [hM0] at off
      have oD := off1_mem off
      clear off
      have hLl : lvs.length = ks.length := by have := hL.length; rwa [List.length_map, run_len] at this
      have hCl : cls.length = ks.length := by have := hC.length; rwa [List.length_map, run_len] at this
      have hLC : lvs.length = cls.length := hLl.trans hCl.symm
      refine' use_call ?B ?F ?X ?N ?T (levels_spec w D _ ys ks (lbOf ks wd) _ hys hk900) ?hA ?hf ?hke ?hh ?hg ?hd ?hu ?hrel ?_
      case hA => exact rfl
      case hf => exact rfl
      case hke => exact rfl
      case B => k_asm
      case F => k_asm
      case X => k_asm
      case N => k_asm
      case T => k_asm
      case hh => exact rfl
      case hg => exact rfl
      case hd => exact Nat.le_of_ble_eq_true rfl
      case hu => exact Nat.le_of_ble_eq_true rfl
      case hrel => exact List.forall_mem_singleton.mpr (by k_mem)
      intro v' h' tk' rel' F' N' D' hR
      revert N' D'
      induction hR with
      | mk Fd nf' fv' tobjs oF hT oT =>
      intro N' D'
      have e1 : ∀ q ∈ ((A, instObj 188 dA) :: (dA, paraD w t1 t2 t3 t4 t5 t6 t7 (.int b0 tb1) (.int ((b0 : Int) + ks.length) te) CX (.int (lbOf ks wd) tq) K Lv Cl) :: (Lv, listOf lvs.toArray nl) :: (Cl, listOf cls.toArray nc) :: R' : List (Addr × Obj)), ∀ r ∈ [(D, LCg.lst ys)], q.1 ≠ r.1 := fun q hq => List.forall_mem_singleton.mpr (oD q (by
        rcases List.mem_cons.mp hq with rfl | hq
        · k_mem
        rcases List.mem_cons.mp hq with rfl | hq
        · k_mem
        rcases List.mem_cons.mp hq with rfl | hq
        · k_mem
        rcases List.mem_cons.mp hq with rfl | hq
        · k_mem
        (repeat apply List.mem_cons_of_mem); exact hq))
      have N5 := N' ((Fd, listOf fv'.toArray nf') :: (D, LCg.lst ys) :: (A, instObj 188 dA) :: (dA, paraD w t1 t2 t3 t4 t5 t6 t7 (.int b0 tb1) (.int ((b0 : Int) + ks.length) te) CX (.int (lbOf ks wd) tq) K Lv Cl) :: (Lv, listOf lvs.toArray nl) :: (Cl, listOf cls.toArray nc) :: (tobjs ++ R')) (by
        refine fa_cons (.inl (.head _)) (fa_cons (.inl (.tail _ (.head _))) (fa_cons (.inr ⟨by k_mem, e1 _ (by k_mem)⟩) (fa_cons (.inr ⟨by k_mem, e1 _ (by k_mem)⟩) (fa_cons (.inr ⟨by k_mem, e1 _ (by k_mem)⟩) (fa_cons (.inr ⟨by k_mem, e1 _ (by k_mem)⟩) (fun q hq => ?_))))))
        rcases List.mem_append.mp hq with hq | hq
        · exact .inl (.tail _ (.tail _ hq))
        · exact .inr ⟨by (repeat apply List.mem_cons_of_mem); exact hq, e1 q (by (repeat apply List.mem_cons_of_mem); exact hq)⟩)
      clear N' D' e1
      have oFR : ∀ q ∈ (tobjs ++ R'), q ∈ (tobjs ++ R') := fun _ h => h
      k_steps
      rename ZipNow _ _ _ _ _ _ _ => Z'
      show wpAny _ _ (call (Value.type "list") [Value.ref _]) _ _ _
      refine' my_listz' ?zh ?zF ?zN Z' ?ze ?zl ?_
      case zh => exact rfl
      case zF => k_asm
      case zN => k_asm
      case ze => assumption
      case zl => exact Nat.le_trans (Nat.le_of_eq hLl) (Nat.le_trans hk900 (by decide))
      clear Z'
      intro h' tk' ZD zt zf zc F' hzt N' l1'
      simp only [List.cons_append, List.nil_append, List.append_assoc] at N'
      k_steps
      refine Halt.mk ?_
      refine my_ne_same (xs := zf) (ys := fv') (ds := (run (lbOf ks wd) ks).2.map pdat) (by assumption) (by k_mem) (datAll_zip hzt hL hC fun q hq => by (repeat apply List.mem_cons_of_mem); exact List.mem_append_right _ (List.mem_append_right _ hq)) (by k_mem) (datAll_tups hT fun q hq => by (repeat apply List.mem_cons_of_mem); exact List.mem_append_left _ hq) (ok_run _ _) (by first | units_room | exact Nat.le_of_ble_eq_true rfl) ?_
      rename News g L _ ((ZD, _) :: _) => NN
      have N6 := kst_newsOf (l' := (Fd, listOf fv'.toArray nf') :: (D, LCg.lst ys) :: (tobjs ++ R')) NN (by
        refine fa_cons (by k_mem) (fa_cons (by k_mem) (fun q hq => ?_))
        (repeat apply List.mem_cons_of_mem)
        rcases List.mem_append.mp hq with hq | hq
        · exact List.mem_append_left _ hq
        · exact List.mem_append_right _ (List.mem_append_left _ hq))
      clear NN hzt
      k_steps
      refine Halt.mk ?_
      refine' use_call ?B ?F ?X ?N ?T (explicit_spec2 w D _ ys ks (lbOf ks wd) _ hys hk900) ?hA ?hf ?hke ?hh ?hg ?hd ?hu ?hrel ?_
      case hA => exact rfl
      case hf => exact rfl
      case hke => exact rfl
      case B => k_asm
      case F => k_asm
      case X => k_asm
      case N => k_asm
      case T => k_asm
      case hh => exact rfl
      case hg => exact rfl
      case hd => exact Nat.le_of_ble_eq_true rfl
      case hu => exact Nat.le_of_ble_eq_true rfl
      case hrel => exact List.forall_mem_singleton.mpr (by k_mem)
      intro v' h' tk' rel' F' N' D' hR
      revert N' D'
      induction hR with
      | mk T' Lv2 Cl2 nl2 nc2 lvs2 cls2 q1 q2 q3 hL2 hC2 =>
      intro N' D'
      have e1 : ∀ q ∈ ((Fd, listOf fv'.toArray nf') :: (tobjs ++ R') : List (Addr × Obj)), ∀ r ∈ [(D, LCg.lst ys)], q.1 ≠ r.1 := fun q hq => List.forall_mem_singleton.mpr (by
        rcases List.mem_cons.mp hq with rfl | hq
        · exact Nat.ne_of_gt oF
        · rcases List.mem_append.mp hq with hq | hq
          · exact oT q hq D (.tail _ (.head _))
          · exact oD q (by (repeat apply List.mem_cons_of_mem); exact hq))
      have N7 := N' ((T', tupO [.ref Lv2, .ref Cl2]) :: (Lv2, listOf lvs2.toArray nl2) :: (Cl2, listOf cls2.toArray nc2) :: (Fd, listOf fv'.toArray nf') :: (tobjs ++ R')) (by
        refine fa_cons (.inl (by k_mem)) (fa_cons (.inl (by k_mem)) (fa_cons (.inl (by k_mem)) (fa_cons (.inr ⟨by k_mem, e1 _ (.head _)⟩) (fun q hq => .inr ⟨.tail _ (.tail _ hq), e1 q (.tail _ hq)⟩)))))
      clear N' D' e1 oD N6
      have hL2l : lvs2.length = ks.length := by have := hL2.length; rwa [List.length_map, run_len] at this
      have hLC2 : lvs2.length = cls2.length := by have := hC2.length; rw [List.length_map, run_len] at this; exact hL2l.trans this.symm
      k_steps
      rename ZipNow _ _ _ _ _ _ _ => Z'
      show wpAny _ _ (call (Value.type "list") [Value.ref _]) _ _ _
      refine' my_listz' ?zh ?zF ?zN Z' ?ze ?zl ?_
      case zh => exact rfl
      case zF => k_asm
      case zN => k_asm
      case ze => assumption
      case zl => exact Nat.le_trans (Nat.le_of_eq hL2l) (Nat.le_trans hk900 (by decide))
      clear Z'
      intro h' tk' ZD zt2 zf2 zc2 F' hzt2 N' l1'
      simp only [List.cons_append, List.nil_append, List.append_assoc] at N'
      k_steps
      refine Halt.mk ?_
      refine my_ne_same (xs := zf2) (ys := fv') (ds := (run (lbOf ks wd) ks).2.map pdat) (by assumption) (by k_mem) (datAll_zip hzt2 hL2 hC2 fun q hq => by (repeat apply List.mem_cons_of_mem); exact List.mem_append_right _ (List.mem_append_right _ hq)) (by k_mem) (datAll_tups hT fun q hq => by (repeat apply List.mem_cons_of_mem); exact List.mem_append_left _ hq) (ok_run _ _) (by first | units_room | exact Nat.le_of_ble_eq_true rfl) ?_
      k_steps
      refine' TurnEnd.next (by assumption) (by assumption) ?g1 ?g2 off2 ⟨by kst_all, rfl⟩
      case g1 => exact fun q hq => by (repeat apply List.mem_cons_of_mem); exact List.mem_append_right _ (List.mem_append_left _ (sN q hq))
      case g2 => exact fun q hq => by (repeat apply List.mem_cons_of_mem); exact List.mem_append_right _ (List.mem_append_left _ (sO q hq))
  · clear l0x
    rintro h' tk m' news' F₁ N₁ ⟨hm, rfl⟩
    rw [← kst_self hm] at F₁
    k_steps
    exact hQ _ _ _ (by assumption)
end
section
local macro_rules | `(tactic| walk_at "call ref") => `(tactic| (k_here; (with_reducible show wpAny _ _ (call (Value.ref 323) _) _ _ _); k_dflt (refine' use_draw ?dB ?dF ?dX ?dN ?dT ?dU1 ?dU2 ?dd ?dy ?d1 ?d2 ?d3 ?d4 ?d5 ?d6 ?d7 ?_; (case d1 => exact rfl); (case d2 => exact rfl); (case d3 => exact rfl); (case d4 => exact rfl); (case d5 => exact rfl); (case d6 => exact Nat.le_of_ble_eq_true rfl); (case d7 => exact Nat.le_of_ble_eq_true rfl); (case dB => k_asm); (case dF => k_asm); (case dX => k_asm); (case dN => k_asm); (case dT => k_asm); (case dd => assumption); (case dU1 => k_updF); (case dU2 => intro o'; (try dsimp only); k_updF); (case dy => first | decide | omega)); intro r' t' oD' oL' h' tk' F' N' hd' r0' r1'; (try dsimp only at N')))
local macro_rules | `(tactic| walk_at "subscriptTail") => `(tactic| (k_here; (with_reducible show wpAny _ _ (subscriptTail _ _ (Value.ref _) (Value.int _ _)) _ _ _); refine Halt.out ?_))
theorem name_cells {P : Prop} {g h : Heap} {L x1 x2 DK LF a b : Addr} {y1 y2 p q p1 p2 : Obj} {r : List (Addr × Obj)} (_N : News g L h ((x1, y1) :: (x2, y2) :: (DK, p) :: (LF, q) :: (a, p1) :: (b, p2) :: r)) (k : ∀ (o1 o2 o3 : Obj), o1 = p → o2 = q → o3 = p2 → P) : P := k _ _ _ rfl rfl rfl
theorem name_rng {P : Prop} {h : Heap} {a : Addr} {r : Int} {t u v : Tok} (_N : IsRange h a 0 (62 + r) 1 t u v) (k : ∀ r' : Int, r' = r → P) : P := k _ rfl
theorem name_cell {P : Prop} {o : Obj} {i : Int} {t : Tok} (_N : o.data = .cell (some (.int i t))) (k : ∀ (i' : Int) (t' : Tok), i' = i → t' = t → P) : P := k _ _ rfl rfl
theorem k23 (c : Bool) : ∃ k, k ≠ Kd.B ∧ Kd.num k = 2 + (if c = true then 1 else 0) := by
  cases c
  · exact ⟨.RLE, (fun h => by cases h), rfl⟩
  · exact ⟨.LRE, (fun h => by cases h), rfl⟩
theorem k01 {r : Int} (h0 : 0 ≤ r) (h1 : r < 2) : ∃ k, k ≠ Kd.B ∧ Kd.num k = r := by
  have : r = 0 ∨ r = 1 := by omega
  rcases this with rfl | rfl
  · exact ⟨.L, (fun h => by cases h), rfl⟩
  · exact ⟨.R, (fun h => by cases h), rfl⟩
theorem k05 {r : Int} (h0 : 0 ≤ r) (h1 : r < 5) : ∃ k, k ≠ Kd.B ∧ Kd.num k = r := by
  obtain ⟨n, rfl⟩ := Int.eq_ofNat_of_zero_le h0
  match n, h1 with
  | 0, _ => exact ⟨.L, (fun h => by cases h), rfl⟩
  | 1, _ => exact ⟨.R, (fun h => by cases h), rfl⟩
  | 2, _ => exact ⟨.RLE, (fun h => by cases h), rfl⟩
  | 3, _ => exact ⟨.LRE, (fun h => by cases h), rfl⟩
  | 4, _ => exact ⟨.PDF, (fun h => by cases h), rfl⟩
  | n + 5, h => exact absurd (Int.ofNat_lt.mp h) (Nat.not_lt.mpr (Nat.le_add_left 5 n))
inductive KsJ (N0 : List (Addr × Obj)) (i : Nat) (ys : List Value) : List (Addr × Obj) → Prop
  | mk (ks : List Kd) : IntsAre ys (ks.map Kd.num) → ks.length = i → (∀ k ∈ ks, k ≠ Kd.B) → KsJ N0 i ys N0
theorem snocK {ys : List Value} {ks : List Kd} {i : Nat} {z : Int} {t : Tok} {R : List (Addr × Obj)} (hys : IntsAre ys (ks.map Kd.num)) (hkl : ks.length = i) (hkB : ∀ k ∈ ks, k ≠ Kd.B) (h : ∃ k, k ≠ Kd.B ∧ Kd.num k = z) :
    KsJ R (i + 1) (ys ++ [.int z t]) R := by
  obtain ⟨k, hk, rfl⟩ := h
  refine .mk (ks ++ [k]) (by rw [List.map_append]; exact hys.append (.cons _ _ .nil)) (by rw [List.length_append, hkl]; rfl) (fun x hx => ?_)
  rcases List.mem_append.mp hx with hx | hx
  · exact hkB x hx
  · rw [List.mem_singleton.mp hx]; exact hk
theorem first_kinds {ks : List Kd} {r1 r2 : Int} {n : Nat} {ws : List Value} (h : IntsAre ws (ks.map Kd.num ++ [r1] ++ (List.replicate n [(4 : Int)]).flatten ++ [r2, 5])) (hB : ∀ k ∈ ks, k ≠ Kd.B) (h1 : 0 ≤ r1) (h2 : r1 < 2) (h3 : 0 ≤ r2) (h4 : r2 < 2) :
    ∃ f : List Kd, IntsAre ws ((f ++ [Kd.B]).map Kd.num) ∧ (∀ k ∈ f, k ≠ Kd.B) ∧ f.length = ks.length + n + 2 := by
  obtain ⟨k1, hk1, rfl⟩ := k01 h1 h2
  obtain ⟨k2, hk2, rfl⟩ := k01 h3 h4
  have e : ∀ n : Nat, (List.replicate n [(4 : Int)]).flatten = (List.replicate n Kd.PDF).map Kd.num := by
    intro n
    induction n with
    | zero => rfl
    | succ n ih => rw [List.replicate_succ, List.replicate_succ, List.flatten_cons, ih]; rfl
  rw [e] at h
  refine ⟨ks ++ [k1] ++ List.replicate n Kd.PDF ++ [k2], by have e5 : Kd.num .B = 5 := rfl; simpa [e5] using h, fun k hk => ?_, by simp; omega⟩
  rcases List.mem_append.mp hk with hk | hk
  · rcases List.mem_append.mp hk with hk | hk
    · rcases List.mem_append.mp hk with hk | hk
      · exact hB k hk
      · rw [List.mem_singleton.mp hk]; exact hk1
    · rw [(List.mem_replicate.mp hk).2]; exact fun h => by cases h
  · rw [List.mem_singleton.mp hk]; exact hk2
theorem name_ok {P : Prop} {w : World} {DK LF : Nat} {p q : Obj} (_h : DeckOk w DK LF p q) (k : ∀ (o1 o2 : Obj), o1 = p → o2 = q → P) : P := k _ _ rfl rfl
theorem name_rng1 {P : Prop} {h : Heap} {a : Addr} {r : Int} {t u v : Tok} (_N : IsRange h a 0 (1 + r) 1 t u v) (k : ∀ r' : Int, r' = r → P) : P := k _ rfl
theorem name_deck {P : Prop} {g h : Heap} {L x1 x2 x3 x4 x5 x6 x7 x8 DK LF : Addr} {y1 y2 y3 y4 y5 y6 y7 y8 p q : Obj} {r : List (Addr × Obj)} (_N : News g L h ((x1, y1) :: (x2, y2) :: (x3, y3) :: (x4, y4) :: (x5, y5) :: (x6, y6) :: (x7, y7) :: (x8, y8) :: (DK, p) :: (LF, q) :: r)) (k : ∀ (o1 o2 : Obj), o1 = p → o2 = q → P) : P := k _ _ rfl rfl
def wdOf (r : Int) : Wd := if r = 0 then .auto else if r = 1 then .ltr else .rtl
def tok3 (r : Int) (t1 t2 t3 : Tok) : Tok := if r = 0 then t1 else if r = 1 then t2 else t3
theorem word_item {r : Int} (h0 : 0 ≤ r) (h1 : r < 3) (t1 t2 t3 : Tok) : [Value.str (Str.ofString "auto") t1, Value.str (Str.ofString "ltr") t2, Value.str (Str.ofString "rtl") t3][r.toNat]? = some (.str (Wd.nm (wdOf r)) (tok3 r t1 t2 t3)) := by
  obtain ⟨n, rfl⟩ := Int.eq_ofNat_of_zero_le h0
  match n, h1 with
  | 0, _ => rfl
  | 1, _ => rfl
  | 2, _ => rfl
  | n + 3, h => exact absurd (Int.ofNat_lt.mp h) (Nat.not_lt.mpr (Nat.le_add_left 3 n))
inductive KdJ (w : World) (DK LF : Nat) (e : Addr × Obj) (rest : List (Addr × Obj)) (i : Nat) (ys : List Value) : List (Addr × Obj) → Prop
  | mk (ks : List Kd) (oD oL : Obj) : DeckOk w DK LF oD oL → IntsAre ys (ks.map Kd.num) → ks.length = i → (∀ k ∈ ks, k ≠ Kd.B) → KdJ w DK LF e rest i ys (e :: (DK, oD) :: (LF, oL) :: rest)
theorem stageB (w : World) (p : Program) (loose : List Str) (mean : ExcName → Option Value) (mg mb : Str → Option Value) (base g : Heap) (L fa : Addr) (cdv : Value) (s : Shared) (Q : Flow → Shared → Prop) (E : Value → Shared → Prop) (m : Str → Option Value)
  (d : DT w) (DK LF : Nat) (oD oL c1 c2 : Obj) (hd0 : DeckOk w DK LF oD oL)
  (R0 : List (Addr × Obj)) (hR0 : R0 = d.rel) (oR : OwnOff R0 [DK, LF, L + 1, L + 1 + 1])
  (hc : NE (L + 1) DK ∧ NE (L + 1) LF ∧ NE (L + 1 + 1) DK ∧ NE (L + 1 + 1) LF ∧ NE (L + 1) (L + 1 + 1)) (d1 : c1.data = .cell (some (.ref DK))) (d2 : c2.data = .cell none)
  (hm : ∀ q ∈ [(Str.ofString "data", Value.ref d.D)], m q.1 = some q.2) :
  PyProof.Rows.Below callerA base [] g → (hd.heap_1 w.params).In g → Top p loose mean mg mb g → Fr g L s.heap m → News g L s.heap ((DK, oD) :: (LF, oL) :: (L + 1, c1) :: (L + 1 + 1, c2) :: R0) →
  (∀ h' tk' m', Fr g L h' m' → Q (.ret (.bool true)) { s with heap := h', toks := tk' }) →
  wpAny (model PySem.Challenge.rw_hb0008_01.row.prog w) (callerA.deeper (LE L fa cdv)) (execs (lawBody.drop 2) (LE L fa cdv)) Q E s := by
  k_fill
  intro B X T F N hQ
  dsimp only [LE, lawBody, lawScope, LawLit, List.drop]
  have hlt : LF < DK := hd0.1
  have hc1 := hc.1
  have hc2 := hc.2.1
  have hc3 := hc.2.2.1
  have hc4 := hc.2.2.2.1
  have hc5 := hc.2.2.2.2
  rw [← kst_self hm] at F
  try k_fold
  k_steps
  refine Halt.mk ?_
  rename (0 : Int) ≤ _ => hr0
  rename _ < (3 : Int) => hr1
  refine my_item (by assumption) (by k_mem) hr0 (Int.lt_trans hr1 (by decide)) (word_item hr0 hr1 _ _ _) ?_
  k_steps
  rename IsRange _ _ _ _ _ _ _ _ => RG
  rename News g L _ ((_, _) :: (_, _) :: (DK, _) :: _) => NN
  rename DeckOk w DK LF _ _ => hd1
  rename Obj.data _ = Data.cell (some (Value.int _ _)) => dw
  rename_i rw0 _ _ _ _ _ _ wy tw _ _ _ _ _ _ _ r3 _ oD1 oL1 _ _ _ _ _ _ _ _ _ _ o2 _ _ _ _ _ _ _ _ _ _ _ _
  have N0 := kst_newsOf (l' := (DK, oD1) :: (LF, oL1) :: (L + 1, c1) :: (L + 1 + 1, o2) :: R0) NN (by
    refine fa_cons (by k_mem) (fa_cons (by k_mem) (fa_cons (by k_mem) (fa_cons (by k_mem) (fun q hq => by (repeat apply List.mem_cons_of_mem); exact hq)))))
  clear NN
  have h30 : 0 ≤ r3 := by assumption
  have h31 : r3 < 80 := by assumption
  refine Halt.mk ?_
  refine LCg.CompSrc.range (n := (62 + r3).toNat) (by rfl) (by assumption) N0 RG ?_ ?_ (by rw [sizeLine_eq]; omega) fun g' => comp_rest (J := KsJ ((DK, oD1) :: (LF, oL1) :: (L + 1, c1) :: (L + 1 + 1, o2) :: R0)) ?_ ?_ ?_
  · exact small_one (by decide) (by decide) (by omega) (by omega)
  · rw [PyProof.Rows.rangeSize_toNat]; unfold Builtin.Range.rangeSize; simp; rw [if_pos (by omega)]
  · exact .mk [] .nil rfl (fun _ h => nomatch h)
  · rintro i v ys news I oI C oC D m₂ h tk E' hi' ⟨t, rfl⟩ hJ hC hx F N off ne
    induction hJ with
    | mk ks hys hkl hkB =>
    try k_fold
    k_steps
    all_goals exact LCg.CompEnd.intro (by assumption) (by assumption) _ (fun q hq => hq) off trivial (snocK hys hkl hkB (k23 _))
  · intro ys news hJ D h tk F N off
    induction hJ with
    | mk ks hys hkl hkB =>
    have g1 : NE DK D := off.1
    have g2 : NE LF D := off.2.1
    have g3 : NE (L + 1) D := off.2.2.1
    have g4 : NE (L + 1 + 1) D := off.2.2.2.1
    k_steps
    rename IsRange _ _ 0 (1 + _) 1 _ _ _ => RG2
    rename News g L _ ((_, _) :: (_, listOf [_, _].toArray _) :: (_, _) :: (_, _) :: (_, _) :: (_, _) :: (_, _) :: (_, _) :: (DK, _) :: _) => NN
    rename_i FS fv _ _ _ _ _ _ r4 _ oD2 oL2 _ _ _ _ _ _ _ _ _ _ _ _ _ _
    have hd2 : DeckOk w DK LF oD2 oL2 := by assumption
    have h40 : 0 ≤ r4 := by assumption
    have h41 : r4 < 4 := by assumption
    obtain ⟨f, hfv, hfB, hfl⟩ := first_kinds ‹IntsAre fv _› hkB (by assumption) (by assumption) (by assumption) (by assumption)
    have hFSR : AllLt FS R0 := (‹_ ∧ _ ∧ _ ∧ _ ∧ _ ∧ _ ∧ _ ∧ DK < FS ∧ LF < FS ∧ _ ∧ _ ∧ AllLt FS R0›).2.2.2.2.2.2.2.2.2.2.2
    have N2 := kst_newsOf (l' := (FS, listOf fv.toArray 0) :: (DK, oD2) :: (LF, oL2) :: (L + 1, c1) :: (L + 1 + 1, o2) :: R0) NN (by
      refine fa_cons (by k_mem) (fa_cons (by k_mem) (fa_cons (by k_mem) (fa_cons (by k_mem) (fa_cons (by k_mem) (fun q hq => by (repeat apply List.mem_cons_of_mem); exact hq))))))
    clear NN
    have hf300 : f.length ≤ 300 := by omega
    clear hlt
    have hlt : LF < DK := hd2.1
    refine Halt.mk ?_
    refine LCg.CompSrc.range (n := (1 + r4).toNat) (by rfl) (by assumption) N2 RG2 (small_one (by decide) (by decide) (by omega) (by omega)) (by rw [PyProof.Rows.rangeSize_toNat]; unfold Builtin.Range.rangeSize; simp; rw [if_pos (by omega)]) (by rw [sizeLine_eq]; omega) fun g' => comp_rest (J := KdJ w DK LF (FS, listOf fv.toArray 0) ((L + 1, c1) :: (L + 1 + 1, o2) :: R0)) ?_ ?_ ?_
    · exact .mk [] _ _ hd2 .nil rfl (fun _ h => nomatch h)
    · rintro i v ys news I oI C oC D m₂ h tk E' hi' ⟨t, rfl⟩ hJ hC hx F N off ne
      induction hJ with
      | mk ks oD3 oL3 hd3 hys hkl hkB =>
      have off' := off
      have y1 : NE DK I := off'.2.1.1
      have y2 : NE DK C := off'.2.1.2.1
      have y3 : NE DK D := off'.2.1.2.2
      have y4 : NE LF I := off'.2.2.1.1
      have y5 : NE LF C := off'.2.2.1.2.1
      have y6 : NE LF D := off'.2.2.1.2.2
      clear off'
      try k_fold
      k_steps
      rename DeckOk w DK LF _ _ => hd4
      rename_i oD4 oL4 _ _ _ _ _ _
      obtain ⟨k, hkB', hkn⟩ := k05 (by assumption) ‹_ < (5 : Int)›
      refine LCg.CompEnd.intro (by assumption) (by assumption) ((FS, listOf fv.toArray 0) :: (DK, oD4) :: (LF, oL4) :: (L + 1, c1) :: (L + 1 + 1, o2) :: R0) (fun q hq => hq) (show LCg.Off3 I C D ((FS, listOf fv.toArray 0) :: (DK, oD4) :: (LF, oL4) :: (L + 1, c1) :: (L + 1 + 1, o2) :: R0) from off) trivial (.mk (ks ++ [k]) (_) (_) (hd4) (by rw [List.map_append]; exact hys.append (hkn ▸ .cons _ _ .nil)) (by rw [List.length_append, hkl]; rfl) (fun x hx => ?_))
      rcases List.mem_append.mp hx with hx | hx
      · exact hkB x hx
      · rw [List.mem_singleton.mp hx]; exact hkB'
    · intro ys news hJ SC h tk F N off
      induction hJ with
      | mk ks2 oD3 oL3 hd3 hys hkl2 hkB2 =>
      have oS := off1_mem off
      clear off
      k_steps
      rename_i CD cs _ _ _ _ _
      rename IntsAre cs _ => hcs
      rw [← List.map_append] at hcs
      have hb4 : ks2.length ≤ 4 := by omega
      have hcl : cs.length = (f ++ [Kd.B] ++ ks2).length := by have := hcs.length; rwa [List.length_map] at this
      have hcl' : cs.length ≤ 1000 := by rw [hcl]; simp; omega
      rename News g L _ ((CD, _) :: _) => NN
      obtain ⟨M0, hM0, NM⟩ : ∃ t, t = _ ∧ News g L _ t := ⟨_, rfl, NN⟩
      have mCD : (CD, listOf cs.toArray 0) ∈ M0 := by rw [hM0]; k_mem
      clear NN
      refine Halt.mk ?_
      refine LCg.CompSrc.ledger (by rfl) (by assumption) NM mCD (by rw [List.size_toArray, sizeLine_eq]; omega) fun g' => comp_rest (J := fun i ys news => CpJ M0 (IntsAre ys (((f ++ [Kd.B] ++ ks2).take i).map tx)) news) ?_ ?_ ?_
      · exact .mk (by simpa using IntsAre.nil)
      · intro i v ys2 news I oI C oC D m₂ h tk E' hi' hv hJ hC hx F N off ne
        induction hJ with
        | mk hys2 =>
        obtain ⟨c, t, rfl, hc'⟩ := IntsAre.at hcs i v (by simpa using hv)
        rw [List.getElem?_map] at hc'
        obtain ⟨k, hkk, rfl⟩ : ∃ k, (f ++ [Kd.B] ++ ks2)[i]? = some k ∧ c = k.num := by
          cases e : (f ++ [Kd.B] ++ ks2)[i]? with
          | none => rw [e] at hc'; cases hc'
          | some k => rw [e] at hc'; exact ⟨k, rfl, (Option.some.inj hc').symm⟩
        try k_fold
        k_steps
        refine LCg.CompEnd.intro (by assumption) (by assumption) M0 (fun q hq => hq) off (.inr ⟨_, by k_mem, rfl, _, rfl⟩) (.mk ?_)
        rw [List.take_add_one, hkk, List.map_append]
        exact hys2.append (.cons _ _ .nil)
      · intro ys2 news hJ TX h tk F N off
        induction hJ with
        | mk hys2 =>
        rw [List.size_toArray, hcl, List.take_length] at hys2
        have oT := off1_mem off
        rw [hM0] at oT N
        clear off
        have mR : ∀ q ∈ R0, NE q.1 FS ∧ NE q.1 SC ∧ NE q.1 TX := fun q hq => ⟨Nat.ne_of_lt (allLt_mem hFSR q hq), oS q (by (repeat apply List.mem_cons_of_mem); exact hq), oT q (by (repeat apply List.mem_cons_of_mem); exact hq)⟩
        have sC : NE SC TX := oT (SC, _) (by k_mem)
        have sF : NE FS TX := oT (FS, _) (by k_mem)
        rw [hR0] at mR
        dsimp only [DT.rel] at mR
        simp only [List.forall_mem_cons, List.not_mem_nil, false_implies, implies_true, and_true] at mR
        dsimp only
        refine' stageC w p loose mean mg mb base g L fa cdv _ Q E _ d TX SC FS ys2.length 0 ys.length ys2 fv ys f ks2 _ _ ?k1 hfv hys hfB hkB2 ?k2 ?k3 ?k4 sF sC ?k5 B X T (by assumption) (kst_newsOf N ?k6) hQ
        case k5 => kst_all
        case k6 =>
          refine fa_cons (.head _) (fa_cons (by k_mem) (fa_cons (by k_mem) (fun q hq => ?_)))
          rw [← hR0] at hq
          (repeat apply List.mem_cons_of_mem); exact hq
        case k1 => rw [List.append_assoc] at hys2; exact hys2
        case k2 => intro h; rw [h, List.length_nil] at hkl2; omega
        case k3 => rw [List.length_append, List.length_cons]; omega
        case k4 =>
          simp only [List.forall_mem_cons, List.not_mem_nil, false_implies, implies_true, and_true]
          exact mR
end
section
local macro_rules | `(tactic| walk_at "call type:enumerate") => `(tactic| (k_here; k_dflt (refine' my_call_enum ?F ?N ?l ?_; (case F => k_asm); (case N => k_asm); (case l => exact (Frag.In.keeps (by k_asm) (Fr.keep (by k_asm))) _ _ (by k_is)); k_whole); intro h' e' it' F' N' he' hit' hl' o1' o2' o3' l1' n1' n2'; (have l0' := l1'); (try k_lt l1')))
def stA : Nat → List Int
  | 0 => []
  | 1 => [0]
  | 2 => [0, 501, 502]
  | 3 => [0, 501, 502, 503]
  | 4 => [0, 501, 502, 503, 504]
  | 5 => [0, 501, 502, 503, 504, 505]
  | _ => [0, 501, 502, 503, 504, 505, 506]
def vlA : Nat → List Str
  | 0 => []
  | 1 => [Kd.nm .L]
  | 2 => [Kd.nm .L, Kd.nm .R, Kd.nm .L]
  | 3 => [Kd.nm .L, Kd.nm .R, Kd.nm .RLE, Kd.nm .L]
  | 4 => [Kd.nm .L, Kd.nm .R, Kd.nm .RLE, Kd.nm .LRE, Kd.nm .L]
  | 5 => [Kd.nm .L, Kd.nm .R, Kd.nm .RLE, Kd.nm .LRE, Kd.nm .PDF, Kd.nm .L]
  | _ => [Kd.nm .L, Kd.nm .R, Kd.nm .RLE, Kd.nm .LRE, Kd.nm .PDF, Kd.nm .B, Kd.nm .L]
theorem strs_pick {vs : List Value} {xs : List Str} (h : StrsAre vs xs) : ∀ (lo hi : Nat), StrsAre ((vs.drop lo).take hi) ((xs.drop lo).take hi) := by
  have tk : ∀ {vs : List Value} {xs : List Str}, StrsAre vs xs → ∀ n, StrsAre (vs.take n) (xs.take n) := by
    intro vs xs h
    induction h with
    | nil => intro n; simp; exact .nil
    | cons i t h ih => intro n; cases n with | zero => exact .nil | succ n => exact .cons i t (ih n)
  have dr : ∀ {vs : List Value} {xs : List Str}, StrsAre vs xs → ∀ n, StrsAre (vs.drop n) (xs.drop n) := by
    intro vs xs h
    induction h with
    | nil => intro n; simp; exact .nil
    | cons i t h ih => intro n; cases n with | zero => exact .cons i t h | succ n => exact ih n
  exact fun lo hi => tk (dr h lo) hi
theorem ints_pick {vs : List Value} {xs : List Int} (h : IntsAre vs xs) : ∀ (lo hi : Nat), IntsAre ((vs.drop lo).take hi) ((xs.drop lo).take hi) := by
  have tk : ∀ {vs : List Value} {xs : List Int}, IntsAre vs xs → ∀ n, IntsAre (vs.take n) (xs.take n) := by
    intro vs xs h
    induction h with
    | nil => intro n; simp; exact .nil
    | cons i t h ih => intro n; cases n with | zero => exact .nil | succ n => exact .cons i t (ih n)
  have dr : ∀ {vs : List Value} {xs : List Int}, IntsAre vs xs → ∀ n, IntsAre (vs.drop n) (xs.drop n) := by
    intro vs xs h
    induction h with
    | nil => intro n; simp; exact .nil
    | cons i t h ih => intro n; cases n with | zero => exact .cons i t h | succ n => exact ih n
  exact fun lo hi => tk (dr h lo) hi
/-- the lists behind a put -/
theorem put_lists {vs ws : List Value} {S : List Int} {W : List Str} (lo hi : Int) (c : Int) (kn : Str) (tx ty tv tz : Tok) (hs : IntsAre vs S) (hw : StrsAre ws W) :
    IntsAre (kms_pick vs none (some lo) ++ [Value.int c tx, Value.int (c + 1) ty] ++ kms_pick vs (some hi) none) ((S.drop (kms_lo none S.length)).take (kms_hi (some lo) S.length - kms_lo none S.length) ++ [c, c + 1] ++ (S.drop (kms_lo (some hi) S.length)).take (kms_hi none S.length - kms_lo (some hi) S.length)) ∧
    StrsAre (kms_pick ws none (some lo) ++ [Value.str kn tv, Value.str (Str.ofString "L") tz] ++ kms_pick ws (some hi) none) ((W.drop (kms_lo none W.length)).take (kms_hi (some lo) W.length - kms_lo none W.length) ++ [kn, Str.ofString "L"] ++ (W.drop (kms_lo (some hi) W.length)).take (kms_hi none W.length - kms_lo (some hi) W.length)) := by
  unfold kms_pick
  rw [hs.length, StrsAre.length hw]
  exact ⟨IntsAre.append (IntsAre.append (ints_pick hs _ _) (.cons _ _ (.cons _ _ .nil))) (ints_pick hs _ _), StrsAre.append' (StrsAre.append' (strs_pick hw _ _) (.cons _ _ (.cons _ _ .nil))) (strs_pick hw _ _)⟩
def kdA : Nat → Kd
  | 0 => .L
  | 1 => .R
  | 2 => .RLE
  | 3 => .LRE
  | 4 => .PDF
  | _ => .B
/-- what a put from the second one on wants -/
structure PutOk (i : Nat) (c : Int) (kn y : Str) (lo hi : Int) (S S' : List Int) (W W' : List Str) : Prop where
  hc0 : 500 ≤ c
  hc1 : c ≤ 600
  len : S.length ≤ 300
  sorted : S.Pairwise (· ≤ ·)
  hp1 : pl S (c - 1) = lo
  hp2 : pl S (c + 1) = hi
  hlo : 0 < lo
  hlo2 : lo ≤ 50
  hhi : 0 < hi
  hhi2 : hi ≤ 50
  w1 : W[(hi - 1 + 1 - 1).toNat]? = some (Str.ofString "L")
  w2 : W[(lo - 1 + 1 - 1).toNat]? = some y
  hk1 : ¬ Str.ofString "L" = kn
  hk2 : ¬ y = kn
  lenW : W.length ≤ 300
  eS : (S.drop (kms_lo none S.length)).take (kms_hi (some (lo - 1 + 1)) S.length - kms_lo none S.length) ++ [c, c + 1] ++ (S.drop (kms_lo (some (hi - 1 + 1)) S.length)).take (kms_hi none S.length - kms_lo (some (hi - 1 + 1)) S.length) = S'
  eW : (W.drop (kms_lo none W.length)).take (kms_hi (some (lo - 1 + 1)) W.length - kms_lo none W.length) ++ [kn, Str.ofString "L"] ++ (W.drop (kms_lo (some (hi - 1 + 1)) W.length)).take (kms_hi none W.length - kms_lo (some (hi - 1 + 1)) W.length) = W'
theorem put_ok (i : Nat) (h1 : 1 ≤ i) (h2 : i < 6) : ∃ y lo hi, PutOk i (500 + i) (kdA i).nm y lo hi (stA i) (stA (i + 1)) (vlA i) (vlA (i + 1)) := by
  rcases i with _ | _ | _ | _ | _ | _ | i
  · exact absurd h1 (by decide)
  · exact ⟨Kd.nm .L, 1, 1, by constructor <;> decide⟩
  · exact ⟨Kd.nm .R, 2, 3, by constructor <;> decide⟩
  · exact ⟨Kd.nm .RLE, 3, 4, by constructor <;> decide⟩
  · exact ⟨Kd.nm .LRE, 4, 5, by constructor <;> decide⟩
  · exact ⟨Kd.nm .PDF, 5, 6, by constructor <;> decide⟩
  · omega
abbrev fourO (DK LF L : Nat) (oD oL c1 c2 : Obj) : List (Addr × Obj) := [(DK, oD), (LF, oL), (L + 1, c1), (L + 1 + 1, c2)]
inductive PutJ (w : World) (D DK LF L : Nat) (oD oL c1 c2 : Obj) (N0 : List (Addr × Obj)) (i : Nat) (m : Str → Option Value) : List (Addr × Obj) → Prop
  | zero (hm : ∀ q ∈ [(Str.ofString "data", Value.ref D)], m q.1 = some q.2) (h : i = 0) : PutJ w D DK LF L oD oL c1 c2 N0 i m N0
  | succ (hm : ∀ q ∈ [(Str.ofString "data", Value.ref D)], m q.1 = some q.2) (h : 1 ≤ i) (d : DP w) (vs ws : List Value) (n1 n2 : Nat) : d.D = D → IntsAre vs (stA i) → StrsAre ws (vlA i) → OwnOff (d.rel vs ws n1 n2) [DK, LF, L + 1, L + 1 + 1] →
    PutJ w D DK LF L oD oL c1 c2 N0 i m ((DK, oD) :: (LF, oL) :: (L + 1, c1) :: (L + 1 + 1, c2) :: d.rel vs ws n1 n2)
/-- a put is done: the turn ends -/
theorem put_end {w : World} {g h' : Heap} {L D DK LF tk : Nat} {oD oL c1 c2 : Obj} {N0 own : List (Addr × Obj)} {i : Nat} {m : Str → Option Value} {s0 : Shared} {Rr : Value → Shared → Prop} {Rb : Shared → Prop} (d : DP w) {vs ws : List Value} {n1 n2 : Nat}
    (F : Fr g L h' m) (N : News g L h' ((DK, oD) :: (LF, oL) :: (L + 1, c1) :: (L + 1 + 1, c2) :: (d.rel vs ws n1 n2 ++ own))) (hm : ∀ q ∈ [(Str.ofString "data", Value.ref D)], m q.1 = some q.2) (eD : d.D = D) (hs : IntsAre vs (stA (i + 1))) (hw : StrsAre ws (vlA (i + 1)))
    (p1 : ∀ r ∈ d.rel vs ws n1 n2, @Ne Nat r.1 DK) (p2 : ∀ r ∈ d.rel vs ws n1 n2, @Ne Nat r.1 LF) (p3 : ∀ r ∈ d.rel vs ws n1 n2, @Ne Nat r.1 (L + 1)) (p4 : ∀ r ∈ d.rel vs ws n1 n2, @Ne Nat r.1 (L + 1 + 1)) (f5 : OwnOff own [DK, LF, L + 1, L + 1 + 1])
    (p5 : ∀ q ∈ own, ∀ r ∈ d.rel vs ws n1 n2, @Ne Nat r.1 q.1) : TurnEnd g L own (PutJ w D DK LF L oD oL c1 c2 N0 (i + 1)) s0 Rr Rb .next { s0 with heap := h', toks := tk } := by
  refine TurnEnd.next F N ?g1 ?g2 ?g3 (.succ hm (Nat.succ_le_succ (Nat.zero_le _)) d vs ws n1 n2 eD hs hw ?g4)
  case g1 =>
    refine sub_cons (by k_mem) (sub_cons (by k_mem) (sub_cons (by k_mem) (sub_cons (by k_mem) (fun q hq => .tail _ (.tail _ (.tail _ (.tail _ (List.mem_append_left _ hq))))))))
  case g2 => exact fun q hq => .tail _ (.tail _ (.tail _ (.tail _ (List.mem_append_right _ hq))))
  case g3 =>
    intro q hq c hc
    obtain ⟨r, hr, rfl⟩ := List.mem_map.mp hc
    rcases List.mem_cons.mp hr with rfl | hr
    · exact f5 q hq DK (.head _)
    rcases List.mem_cons.mp hr with rfl | hr
    · exact f5 q hq LF (.tail _ (.head _))
    rcases List.mem_cons.mp hr with rfl | hr
    · exact f5 q hq (L + 1) (.tail _ (.tail _ (.head _)))
    rcases List.mem_cons.mp hr with rfl | hr
    · exact f5 q hq (L + 1 + 1) (.tail _ (.tail _ (.tail _ (.head _))))
    exact Ne.symm (p5 q hq r hr)
  case g4 => exact fun r hr => fa_cons (p1 r hr) (fa_cons (p2 r hr) (fa_cons (p3 r hr) (List.forall_mem_singleton.mpr (p4 r hr))))
theorem gen_dat {P : Prop} {w : World} {g h : Heap} {L x1 x2 x3 M DF D dD : Addr} {y1 y2 y3 oM oF : Obj} {t1 t2 t3 t4 : Tok} {pr wo : Value} {r : List (Addr × Obj)} (N : News g L h ((x1, y1) :: (x2, y2) :: (x3, y3) :: (M, oM) :: (DF, oF) :: (D, instObj 306 dD) :: (dD, datD w t1 t2 t3 t4 (.ref DF) (.ref M) pr wo) :: r))
    (k : ∀ (t1' t2' t3' t4' : Tok) (pr' wo' : Value), News g L h ((D, instObj 306 dD) :: (dD, datD w t1' t2' t3' t4' (.ref DF) (.ref M) pr' wo') :: (M, oM) :: (DF, oF) :: r) → P) : P :=
  k t1 t2 t3 t4 pr wo (fun q hq => N q (by
    rcases List.mem_cons.mp hq with rfl | hq
    · k_mem
    rcases List.mem_cons.mp hq with rfl | hq
    · k_mem
    rcases List.mem_cons.mp hq with rfl | hq
    · k_mem
    rcases List.mem_cons.mp hq with rfl | hq
    · k_mem
    (repeat apply List.mem_cons_of_mem); exact hq))
theorem name_c1 {P : Prop} {o : Obj} {a : Addr} (_h : o.data = .cell (some (.ref a))) (k : ∀ o' : Obj, o' = o → P) : P := k o rfl
theorem stageA (w : World) (p : Program) (loose : List Str) (mean : ExcName → Option Value) (mg mb : Str → Option Value) (base g : Heap) (L fa S : Addr) (cdv : Value) (s : Shared) (Q : Flow → Shared → Prop) (E : Value → Shared → Prop) (m : Str → Option Value) (c1 c2 : Obj) (vs : List Value) (ns : List Int)
  (d1 : c1.data = .cell none) (d2 : c2.data = .cell none)
  (hm : ∀ q ∈ [(Str.ofString "script", Value.ref S)], m q.1 = some q.2) (hS : g.IsList S vs.toArray) (hi : IntsAre vs ns) (hl : ns.length ≤ 63) :
  PyProof.Rows.Below callerA base [] g → (hd.heap_1 w.params).In g → Top p loose mean mg mb g → Fr g L s.heap m → News g L s.heap [(L + 1, c1), (L + 1 + 1, c2)] →
  (∀ h' tk' m', Fr g L h' m' → Q (.ret (.bool true)) { s with heap := h', toks := tk' }) →
  wpAny (model PySem.Challenge.rw_hb0008_01.row.prog w) (callerA.deeper (LE L fa cdv)) (execs lawBody (LE L fa cdv)) Q E s := by
  k_fill
  intro B X T F N hQ
  dsimp only [LE, lawBody, lawScope, LawLit]
  rw [← kst_self hm] at F
  have hcc : NE (L + 1) (L + 1 + 1) := Nat.ne_of_lt (Nat.lt_succ_self _)
  try k_fold
  k_steps
  refine Halt.mk ?_
  refine' use_callP ?B ?F ?X ?N ?T (deck_spec w S vs ns hi hl) ?hP ?hA ?hf ?hke ?hh ?hg ?hd ?hu ?_
  case hP => exact fun g' hk => hS.at fun o e => hk _ _ e
  case hA => exact rfl
  case hf => exact rfl
  case hke => exact rfl
  case B => k_asm
  case F => k_asm
  case X => k_asm
  case N => k_asm
  case T => k_asm
  case hh => exact rfl
  case hg => exact rfl
  case hd => exact Nat.le_of_ble_eq_true rfl
  case hu => exact Nat.le_of_ble_eq_true rfl
  intro v' h' tk' rel' F' N' D' hR
  revert N' D'
  induction hR with
  | mk DK LF n oD mx tm vs' ns' hlt hD hi' hl' hn' hmx =>
  intro N' D'
  simp only [List.cons_append, List.nil_append] at N'
  have hdk : DeckOk w DK LF oD (listOf vs'.toArray n) := ⟨hlt, mx, tm, vs', ns', n, hD, rfl, hi', hl', hn', hmx⟩
  have z1 : NE DK (L + 1) ∧ NE LF (L + 1) := ⟨D' _ (.head _) _ (.head _), D' _ (.head _) _ (.tail _ (.head _))⟩
  have z2 : NE DK (L + 1 + 1) ∧ NE LF (L + 1 + 1) := ⟨D' _ (.tail _ (.head _)) _ (.head _), D' _ (.tail _ (.head _)) _ (.tail _ (.head _))⟩
  clear D'
  have z11 := z1.1
  have z12 := z1.2
  have z21 := z2.1
  have z22 := z2.2
  generalize hoL : listOf vs'.toArray n = oL at N' hdk
  k_steps
  rename_i D dD _ _ _ _ _ _ _ _ _ _ _ _ _ _
  have oDD : @LT.lt Nat _ dD D := by assumption
  refine Halt.mk ?_
  show wpAny _ _ (call (.ref 268) []) _ _ _
  refine' use_call ?B ?F ?X ?N ?T (defaults_spec w) ?hA ?hf ?hke ?hh ?hg ?hd ?hu ?hrel ?_
  case hA => exact rfl
  case hf => exact rfl
  case hke => exact rfl
  case B => k_asm
  case F => k_asm
  case X => k_asm
  case N => k_asm
  case T => k_asm
  case hh => exact rfl
  case hg => exact rfl
  case hd => exact Nat.le_of_ble_eq_true rfl
  case hu => exact Nat.le_of_ble_eq_true rfl
  case hrel => exact fun _ h => nomatch h
  intro v' h' tk' rel' F' N' D' hR
  revert N' D'
  induction hR with
  | mk DF oF hF hlF =>
  intro N' D'
  have DF' := fun q hq => D' q hq (fun _ h => nomatch h) (DF, oF) (.head _)
  have u1 : NE DF D := DF' (D, _) (by k_mem)
  have u2 : NE DF dD := DF' (dD, _) (by k_mem)
  have u3 : NE DF DK := DF' (DK, _) (by k_mem)
  have u4 : NE DF LF := DF' (LF, _) (by k_mem)
  have u5 : NE DF (L + 1) := DF' (L + 1, _) (by k_mem)
  have u6 : NE DF (L + 1 + 1) := DF' (L + 1 + 1, _) (by k_mem)
  have N2 := N' ((DF, oF) :: (D, instObj 306 dD) :: (dD, dictOf [] 0) :: (DK, oD) :: (LF, oL) :: (L + 1, c1) :: [(L + 1 + 1, c2)]) (by
    refine fa_cons (.inl (.head _)) (fun q hq => .inr ⟨hq, fun _ h => nomatch h⟩))
  clear N' D' DF'
  k_steps
  refine Halt.mk ?_
  rename Obj.data _ = Data.cell (some (Value.ref DK)) => dc1
  rename_i M _ oM _ _ _ _ _ _ _ _ _ _ _ _ _ _ _ _ _ _ _ _ _ _ _ _ _ _ _ _ _ _ _ _ _ _ _ _ c1' _ _ _ _ _ _ _ _ _ _ _ _ _ _ _ _ _ _
  rename News g L _ ((_, _) :: (_, _) :: (_, _) :: (_, _) :: (DF, _) :: _) => NN
  rename (∀ p : Addr × Obj, p ∈ _ → @LT.lt Nat _ p.1 _) => l0x
  refine gen_dat NN fun t1 t2 t3 t4 pr wo NN2 => ?_
  clear NN
  have hM : oM.IsDictOf (PySem.strKind PySem.Challenge.rw_hb0008_01.row.prog w) [] := by assumption
  have hlM : ((M : Addr) == sysModules) = false := by assumption
  have oDM : @LT.lt Nat _ D M := by omega
  have u7 : NE DF M := Nat.ne_of_lt (by omega)
  obtain ⟨N0, hN0, NN0⟩ : ∃ t, t = ((D, instObj 306 dD) :: (dD, datD w t1 t2 t3 t4 (.ref DF) (.ref M) pr wo) :: (M, oM) :: (DF, oF) :: (DK, oD) :: (LF, oL) :: (L + 1, c1') :: [(L + 1 + 1, c2)] : List (Addr × Obj)) ∧ News g L _ t := ⟨_, rfl, NN2⟩
  clear NN2
  refine for_enum (m := _) (adr := []) (J := PutJ w D DK LF L oD oL c1' c2 N0) (by rfl) (by assumption) NN0 (by assumption) (by assumption) (by assumption) (by assumption) (by assumption) (by assumption) (by assumption) (by assumption) ?_ ?_ (by rfl) (by rfl) (by rfl) ?_ ?_ ?_ ?_
  · exact fun _ h => nomatch h
  · rw [hN0]
    exact fa_cons (show @LT.lt Nat _ D _ from l0x (D, _) (by k_mem)) (fa_cons (show @LT.lt Nat _ dD _ from l0x (dD, _) (by k_mem)) (fa_cons (show @LT.lt Nat _ M _ from l0x (M, _) (by k_mem)) (fa_cons (show @LT.lt Nat _ DF _ from l0x (DF, _) (by k_mem)) (fa_cons (show @LT.lt Nat _ DK _ from l0x (DK, _) (by k_mem)) (fa_cons (show @LT.lt Nat _ LF _ from l0x (LF, _) (by k_mem)) (fa_cons (show @LT.lt Nat _ (L + 1) _ from l0x ((L + 1), _) (by k_mem)) (List.forall_mem_singleton.mpr (show @LT.lt Nat _ (L + 1 + 1) _ from l0x (L + 1 + 1, _) (by k_mem)))))))))
  · rintro i h' m' news' F N -
    exact ⟨_, (Frag.In.keeps X (Fr.keep F)) _ _ (by k_is), rfl, _, rfl⟩
  · exact .zero (by kst_all) rfl
  · clear l0x
    intro i v t m₁ news₁ h tk own hv hJ off1 off2 F₁ N₁
    rcases i with _ | i
    · have ei : v = Value.str (Str.ofString "L") 658 := by simpa using hv.symm
      subst ei
      clear hv
      revert off2 N₁
      induction hJ with
      | succ _ h1 => exact absurd h1 (by decide)
      | zero hm _ =>
      intro off2 N₁
      rw [← kst_self hm] at F₁
      rw [hN0] at N₁ off2
      clear hN0 NN0
      simp only [List.cons_append, List.nil_append] at N₁
      try dsimp only
      try k_fold
      k_steps
      refine Halt.mk ?_
      refine' use_call ?Bz ?Fz ?Xz ?Nz ?Tz (put0_spec w D dD DF M oM oF _ _ _ _ _ _ _ _ _ _ _ hM hlM hF hlF oDD oDM ⟨u1, u2, u7⟩ (by rfl)) ?hAz ?hfz ?hkez ?hhz ?hgz ?hdz ?huz ?hrelz ?_
      case hAz => exact rfl
      case hfz => exact rfl
      case hkez => exact rfl
      case Bz => k_asm
      case Fz => k_asm
      case Xz => k_asm
      case Nz => k_asm
      case Tz => k_asm
      case hhz => exact rfl
      case hgz => exact rfl
      case hdz => exact Nat.le_of_ble_eq_true rfl
      case huz => exact Nat.le_of_ble_eq_true rfl
      case hrelz => k_allIn
      intro v' h' tk' rel' F' N' D' hR
      revert N' D'
      induction hR with
      | mk d2 x0 x1 n1' n2' eD2 =>
      intro N' D'
      have sub0 : ∀ r ∈ ([(D, instObj 306 dD), (dD, datD w t1 t2 t3 t4 (.ref DF) (.ref M) pr wo), (M, oM), (DF, oF)] : List (Addr × Obj)), r ∈ ((D, instObj 306 dD) :: (dD, datD w t1 t2 t3 t4 (.ref DF) (.ref M) pr wo) :: (M, oM) :: (DF, oF) :: (DK, oD) :: (LF, oL) :: (L + 1, c1') :: [(L + 1 + 1, c2)] : List (Addr × Obj)) := by k_allIn
      have q1 : ∀ r ∈ ([(D, instObj 306 dD), (dD, datD w t1 t2 t3 t4 (.ref DF) (.ref M) pr wo), (M, oM), (DF, oF)] : List (Addr × Obj)), DK ≠ r.1 := by k_all
      have q2 : ∀ r ∈ ([(D, instObj 306 dD), (dD, datD w t1 t2 t3 t4 (.ref DF) (.ref M) pr wo), (M, oM), (DF, oF)] : List (Addr × Obj)), LF ≠ r.1 := by k_all
      have q3 : ∀ r ∈ ([(D, instObj 306 dD), (dD, datD w t1 t2 t3 t4 (.ref DF) (.ref M) pr wo), (M, oM), (DF, oF)] : List (Addr × Obj)), (L + 1 : Nat) ≠ r.1 := by k_all
      have q4 : ∀ r ∈ ([(D, instObj 306 dD), (dD, datD w t1 t2 t3 t4 (.ref DF) (.ref M) pr wo), (M, oM), (DF, oF)] : List (Addr × Obj)), (L + 1 + 1 : Nat) ≠ r.1 := by k_all
      have q5 : ∀ q ∈ own, ∀ r ∈ ([(D, instObj 306 dD), (dD, datD w t1 t2 t3 t4 (.ref DF) (.ref M) pr wo), (M, oM), (DF, oF)] : List (Addr × Obj)), q.1 ≠ r.1 := fun q hq r hr => off2 q hq r.1 (List.mem_map_of_mem (sub0 r hr))
      have f5 : OwnOff own [DK, LF, L + 1, L + 1 + 1] := fun q hq c hc => off2 q hq c (by simp only [List.map_cons, List.map_nil, List.mem_cons, List.not_mem_nil, or_false] at hc ⊢; rcases hc with h | h | h | h <;> simp [h])
      have p1 := D' (DK, oD) (by k_mem) q1
      have p2 := D' (LF, oL) (by k_mem) q2
      have p3 := D' (L + 1, c1') (by k_mem) q3
      have p4 := D' (L + 1 + 1, c2) (by k_mem) q4
      have p5 := fun q (hq : q ∈ own) => D' q (by (repeat apply List.mem_cons_of_mem); exact hq) (q5 q hq)
      have N3 := N' ((DK, oD) :: (LF, oL) :: (L + 1, c1') :: (L + 1 + 1, c2) :: (d2.rel [.int 0 x0] [.str (Str.ofString "L") x1] n1' n2' ++ own)) (by
        refine fa_cons (.inr ⟨by k_mem, q1⟩) (fa_cons (.inr ⟨by k_mem, q2⟩) (fa_cons (.inr ⟨by k_mem, q3⟩) (fa_cons (.inr ⟨by k_mem, q4⟩) (fun q hq => ?_))))
        rcases List.mem_append.mp hq with hq | hq
        · exact .inl hq
        · exact .inr ⟨by (repeat apply List.mem_cons_of_mem); exact hq, q5 q hq⟩)
      clear N' D'
      k_steps
      exact put_end d2 (by assumption) N3 (by kst_all) eD2 (.cons _ _ .nil) (.cons _ _ .nil) p1 p2 p3 p4 f5 p5
    · have hlt : i + 1 < 6 := by
        have h5 : i < 5 := (List.getElem?_eq_some_iff.mp (by simpa using hv)).1
        omega
      obtain ⟨tk', rfl⟩ : ∃ tk', v = Value.str (kdA (i + 1)).nm tk' := by
        rcases i with _ | _ | _ | _ | _ | i
        · exact ⟨659, by simp at hv; exact hv.symm⟩
        · exact ⟨660, by simp at hv; exact hv.symm⟩
        · exact ⟨661, by simp at hv; exact hv.symm⟩
        · exact ⟨662, by simp at hv; exact hv.symm⟩
        · exact ⟨663, by simp at hv; exact hv.symm⟩
        · omega
      clear hv
      obtain ⟨y, lo, hi, ok⟩ := put_ok (i + 1) (Nat.succ_le_succ (Nat.zero_le _)) hlt
      have hci : (500 : Int) + ((i + 1 : Nat) : Int) = 500 + ((i + 1 : Nat) : Int) := rfl
      generalize (kdA (i + 1)).nm = kn at ok F₁
      revert off2 N₁
      induction hJ with
      | zero _ h1 => exact absurd h1 (by omega)
      | succ hm _ dp vs1 ws1 n1 n2 eD hs1 hw1 oO =>
      intro off2 N₁
      rw [← eD] at hm
      obtain ⟨tz, hg1⟩ := StrsAre.get hw1 _ _ ok.w1
      obtain ⟨ty, hg2⟩ := StrsAre.get hw1 _ _ ok.w2
      have hlv : vs1.length ≤ 300 := by rw [hs1.length]; exact ok.len
      have hlw : ws1.length ≤ 300 := by rw [StrsAre.length hw1]; exact ok.lenW
      rw [← kst_self hm] at F₁
      dsimp only [DP.rel] at N₁
      simp only [List.cons_append, List.nil_append] at N₁
      try dsimp only
      try k_fold
      k_steps
      refine Halt.mk ?_
      refine' use_call ?By ?Fy ?Xy ?Ny ?Ty (putK_spec w dp vs1 ws1 (500 + ((i + 1 : Nat) : Int)) kn (stA (i + 1)) lo hi _ _ _ _ n1 n2 ok.hc0 ok.hc1 hs1 (Nat.le_trans ok.len (by decide)) (sorted_of ok.sorted) ok.hp1 ok.hp2 ok.hlo ok.hlo2 ok.hhi ok.hhi2 tz ty y hg1 hg2 ok.hk1 ok.hk2 hlv hlw) ?hAy ?hfy ?hkey ?hhy ?hgy ?hdy ?huy ?hrely ?_
      case hAy => exact rfl
      case hfy => exact rfl
      case hkey => exact rfl
      case By => k_asm
      case Fy => k_asm
      case Xy => k_asm
      case Ny => k_asm
      case Ty => k_asm
      case hhy => exact rfl
      case hgy => exact rfl
      case hdy => exact Nat.le_of_ble_eq_true rfl
      case huy => exact Nat.le_of_ble_eq_true rfl
      case hrely => dsimp only [DP.rel]; k_allIn
      intro v' h' tk' rel' F' N' D' hR
      revert N' D'
      induction hR with
      | mk d2 tx ty tv tz n1' n2' eD2 =>
      intro N' D'
      have hL := put_lists (lo - 1 + 1) (hi - 1 + 1) (500 + ((i + 1 : Nat) : Int)) kn tx ty tv tz hs1 hw1
      rw [ok.eS, ok.eW] at hL
      have q1 : ∀ r ∈ dp.rel vs1 ws1 n1 n2, DK ≠ r.1 := fun r hr => Ne.symm (oO r hr DK (.head _))
      have q2 : ∀ r ∈ dp.rel vs1 ws1 n1 n2, LF ≠ r.1 := fun r hr => Ne.symm (oO r hr LF (.tail _ (.head _)))
      have q3 : ∀ r ∈ dp.rel vs1 ws1 n1 n2, (L + 1 : Nat) ≠ r.1 := fun r hr => Ne.symm (oO r hr (L + 1) (.tail _ (.tail _ (.head _))))
      have q4 : ∀ r ∈ dp.rel vs1 ws1 n1 n2, (L + 1 + 1 : Nat) ≠ r.1 := fun r hr => Ne.symm (oO r hr (L + 1 + 1) (.tail _ (.tail _ (.tail _ (.head _)))))
      have q5 : ∀ q ∈ own, ∀ r ∈ dp.rel vs1 ws1 n1 n2, q.1 ≠ r.1 := fun q hq r hr => off2 q hq r.1 (List.mem_map_of_mem (.tail _ (.tail _ (.tail _ (.tail _ hr)))))
      have f5 : OwnOff own [DK, LF, L + 1, L + 1 + 1] := fun q hq c hc => off2 q hq c (by simp only [List.map_cons, List.mem_cons, List.not_mem_nil, or_false] at hc ⊢; rcases hc with h | h | h | h <;> simp [h])
      generalize (kms_pick vs1 none (some (lo - 1 + 1)) ++ [Value.int (500 + ((i + 1 : Nat) : Int)) tx, Value.int (500 + ((i + 1 : Nat) : Int) + 1) ty] ++ kms_pick vs1 (some (hi - 1 + 1)) none) = vs2 at hL N' D'
      generalize (kms_pick ws1 none (some (lo - 1 + 1)) ++ [Value.str kn tv, Value.str (Str.ofString "L") tz] ++ kms_pick ws1 (some (hi - 1 + 1)) none) = ws2 at hL N' D'
      have p1 := D' (DK, oD) (by k_mem) q1
      have p2 := D' (LF, oL) (by k_mem) q2
      have p3 := D' (L + 1, c1') (by k_mem) q3
      have p4 := D' (L + 1 + 1, c2) (by k_mem) q4
      have p5 := fun q (hq : q ∈ own) => D' q (by (repeat apply List.mem_cons_of_mem); exact hq) (q5 q hq)
      have N3 := N' ((DK, oD) :: (LF, oL) :: (L + 1, c1') :: (L + 1 + 1, c2) :: (d2.rel vs2 ws2 n1' n2' ++ own)) (by
        refine fa_cons (.inr ⟨by k_mem, q1⟩) (fa_cons (.inr ⟨by k_mem, q2⟩) (fa_cons (.inr ⟨by k_mem, q3⟩) (fa_cons (.inr ⟨by k_mem, q4⟩) (fun q hq => ?_))))
        rcases List.mem_append.mp hq with hq | hq
        · exact .inl hq
        · exact .inr ⟨by (repeat apply List.mem_cons_of_mem); exact hq, q5 q hq⟩)
      clear N' D'
      k_steps
      exact put_end d2 (by assumption) N3 (by rw [← eD]; kst_all) (eD2.trans eD) (hL.1) (hL.2) p1 p2 p3 p4 f5 p5
  · clear l0x
    intro h' tk m' news' F₁ N₁ hJ
    revert N₁
    induction hJ with
    | zero _ h1 => exact absurd h1 (by decide)
    | succ hm _ dp vs1 ws1 n1 n2 eD hs1 hw1 oO =>
    intro N₁
    rw [← eD] at hm
    rw [← kst_self hm] at F₁
    refine' stageB w p loose mean mg mb base g L fa cdv _ Q E _ (DT.mk dp.D dp.dD dp.M dp.RM dp.dR dp.St dp.Vl dp.oM dp.t1 dp.t2 dp.t3 dp.t4 dp.t5 dp.t6 dp.t7 dp.df dp.pr dp.wo dp.df2 n1 n2 vs1 ws1 dp.hM dp.lo hs1 hw1) DK LF oD oL c1' c2 hdk (dp.rel vs1 ws1 n1 n2) rfl oO ⟨z11.symm, z12.symm, z21.symm, z22.symm, hcc⟩ dc1 d2 ?hm B X T F₁ N₁ hQ
    case hm => kst_all
end
def tst.tw17232803817100553617 : Nat := 0
def tst.tw17563169692716023404 : Nat := 0
def tst.tw7100695403900287898 : Nat := 0
def tst.tw8135706930632382221 : Nat := 0
def tst.tw2391392320752691259 : Nat := 0
def tst.tw7895440957140861945 : Nat := 0
def tst.tw8052637322477127005 : Nat := 0
def tst.tw9606020059117553901 : Nat := 0
def tst.tw15056405026737152659 : Nat := 0
def tst.tw18427214877874553101 : Nat := 0
def tst.tw4900082366387523201 : Nat := 0
def tst.tw1554631046068961173 : Nat := 0
def tst.tw5198337492239614539 : Nat := 0
def tst.tw8311513093753952863 : Nat := 0
def tst.tw11805690770714759797 : Nat := 0
def tst.tw14414454399227380474 : Nat := 0
def tst.tw8262819403414354786 : Nat := 0
def tst.tw17651674643424488279 : Nat := 0
def tst.tw7539883852549408675 : Nat := 0
def tst.tw16577404605056033415 : Nat := 0
def tst.tw12455255506054272763 : Nat := 0
def tst.tw16949893868747960716 : Nat := 0
def tst.tw16041025538930764526 : Nat := 0
def tst.tw2524427153958793694 : Nat := 0
def tst.tw7558511768048122140 : Nat := 0
def tst.tw3427033028471366776 : Nat := 0
def tst.tw16768941979817372564 : Nat := 0
def tst.tw15612288213756286628 : Nat := 0
def tst.tw18223656286133005238 : Nat := 0
def tst.tw12626681091535286743 : Nat := 0
def tst.tw13306750988341741366 : Nat := 0
def tst.tw3888143988530843356 : Nat := 0
def tst.tw13988919060365037628 : Nat := 0
def tst.tw13960593113213889528 : Nat := 0
def tst.tw16213675909442864633 : Nat := 0
def tst.tw13381666310534434701 : Nat := 0
def tst.tw1128301199970383335 : Nat := 0
def tst.tw15691025728854562220 : Nat := 0
def tst.tw64650628817268544 : Nat := 0
def tst.tw11808551258829678053 : Nat := 0
def tst.tw7893384012250506402 : Nat := 0
def tst.tw10342910066522914069 : Nat := 0
def tst.tw10669012213073816696 : Nat := 0
def tst.tw9907420384539792325 : Nat := 0
def tst.tw4475671502369229120 : Nat := 0
def tst.tw7760484701765189462 : Nat := 0
def tst.tw11314124422660692142 : Nat := 0
def tst.tw10065415341844484496 : Nat := 0
def tst.tw8249194471011809505 : Nat := 0
def tst.tw1893473201930040 : Nat := 0
def tst.tw211615583716641645 : Nat := 0
def tst.tw7402251971070928622 : Nat := 0
def tst.tw15536409128704007610 : Nat := 0
def tst.tw15290294844269049172 : Nat := 0
def tst.tw15892474503325581374 : Nat := 0
def tst.tw8296127595978255039 : Nat := 0
def tst.tw8531580371673050450 : Nat := 0
def tst.tw16541903327963619254 : Nat := 0
def tst.tw5902796566761548338 : Nat := 0
def tst.tw9960165919239670616 : Nat := 0
def tst.tw12484055123518243562 : Nat := 0
def tst.tw10703844437208118194 : Nat := 0
def tst.tw1381064490568347560 : Nat := 0
def tst.tw7731418467878327137 : Nat := 0
def tst.tw3370996075955941847 : Nat := 0
def tst.tw3490321923831927062 : Nat := 0
def tst.tw16031958567616784342 : Nat := 0
def tst.tw16098766215824810615 : Nat := 0
def tst.tw16254796384897514703 : Nat := 0
def tst.tw16796983639187676321 : Nat := 0
def tst.tw2416189202232560680 : Nat := 0
def tst.tw16921891151626967885 : Nat := 0
def tst.tw7476362897079886808 : Nat := 0
def tst.tw2387763093764737149 : Nat := 0
def tst.tw5758539995409307386 : Nat := 0
def tst.tw3518399246283810699 : Nat := 0
def tst.tw6617249942507005440 : Nat := 0
def tst.tw6334735584340088332 : Nat := 0
def tst.tw18423034656770222954 : Nat := 0
def tst.tw14272079317466966078 : Nat := 0
def tst.tw5342956770687097530 : Nat := 0
def tst.tw5253980221923251742 : Nat := 0
def tst.tw17222385333848644243 : Nat := 0
def tst.tw9853199112258656121 : Nat := 0
def tst.tw2396113698127644335 : Nat := 0
def tst.tw2407532033385470400 : Nat := 0
def tst.tw5088223118975126972 : Nat := 0
def tst.tw1208431432014105254 : Nat := 0
def tst.tw12379495475633454567 : Nat := 0
def tst.tw8030248618614120617 : Nat := 0
def tst.tw17286825090387913977 : Nat := 0
def tst.tw15218164281370153946 : Nat := 0
def tst.tw14346400951038496859 : Nat := 0
def tst.tw3313005234515980939 : Nat := 0
def tst.tw15652195769233665597 : Nat := 0
def tst.tw6400957318658497088 : Nat := 0
def tst.tw14419310160178957501 : Nat := 0
def tst.tw6317599612189787365 : Nat := 0
def tst.tw6365676774494926233 : Nat := 0
def tst.tw15222778808742303948 : Nat := 0
def tst.tw4038875724513562464 : Nat := 0
def tst.tw3527424334175840029 : Nat := 0
def tst.tw1064982340457557168 : Nat := 0
def tst.tw12840463727530877985 : Nat := 0
def tst.tw2718815225060643546 : Nat := 0
def tst.tw2608472852133561110 : Nat := 0
def tst.tw14196515718957429185 : Nat := 0
def tst.tw14476780003503640686 : Nat := 0
def tst.tw16664463648415096088 : Nat := 0
def tst.tw5143858426164762265 : Nat := 0
def tst.tw14001552773395394465 : Nat := 0
def tst.tw13897027419380361479 : Nat := 0
def tst.tw15688065034789176032 : Nat := 0
def tst.tw12740909532550132055 : Nat := 0
def tst.tw12712293140656252276 : Nat := 0
def tst.tw1022779908350010996 : Nat := 0
def tst.tw6868389802908039976 : Nat := 0
def tst.tw17140370627538657656 : Nat := 0
def tst.tw7165231569412915201 : Nat := 0
def tst.tw660780965592923454 : Nat := 0
def tst.tw14567797115526551521 : Nat := 0
def tst.tw10440284294845702138 : Nat := 0
def tst.tw15582364646822052660 : Nat := 0
def tst.tw15151003313695874015 : Nat := 0
def tst.tw3973219185488399859 : Nat := 0
def tst.tw17949400127384967438 : Nat := 0
def tst.tw5792746575773994148 : Nat := 0
def tst.tw8254733401159417677 : Nat := 0
def tst.tw1748277514298564386 : Nat := 0
def tst.tw13817140405518100064 : Nat := 0
def tst.tw3108834643889166892 : Nat := 0
def tst.tw3373191222160097313 : Nat := 0
def tst.tw3320704905592165021 : Nat := 0
def tst.tw13876531297118769017 : Nat := 0
def tst.tw4265866372443914723 : Nat := 0
def tst.tw16409308290439952269 : Nat := 0
def tst.tw8073719945716160352 : Nat := 0
def tst.tw10246241396213292071 : Nat := 0
def tst.tw7972768160541562852 : Nat := 0
def tst.tw9884344723963044388 : Nat := 0
def tst.tw534797617789554504 : Nat := 0
def tst.tw4921786089757887957 : Nat := 0
def tst.tw7938653949576174705 : Nat := 0
def tst.tw7101114182875890112 : Nat := 0
def tst.tw6319129693214491102 : Nat := 0
def tst.tw1757938201048317723 : Nat := 0
def tst.tw14647138120555391352 : Nat := 0
def tst.tw15799109749675766846 : Nat := 0
def tst.tw15917865057077604508 : Nat := 0
def tst.tw13568065447300682875 : Nat := 0
def tst.tw5065626458602328956 : Nat := 0
def tst.tw4582111022687577739 : Nat := 0
def tst.tw2971003443900054499 : Nat := 0
def tst.tw14025238531545261312 : Nat := 0
def tst.tw346243319190124483 : Nat := 0
def tst.tw17469743012977406671 : Nat := 0
def tst.tw5712430633051512380 : Nat := 0
def tst.tw8884996248251384527 : Nat := 0
def tst.tw5084351526245353211 : Nat := 0
def tst.tw11006586867338099744 : Nat := 0
def tst.tw15204357938482763544 : Nat := 0
def tst.tw9918953845745363970 : Nat := 0
def tst.tw13555154383680995558 : Nat := 0
def tst.tw5772770445517264737 : Nat := 0
def tst.tw2250207011766510254 : Nat := 0
def tst.tw3137380190442611911 : Nat := 0
def tst.tw9795887928284397602 : Nat := 0
def tst.tw9012421237956471986 : Nat := 0
def tst.tw17702915789518511908 : Nat := 0
def tst.tw4728053620353770981 : Nat := 0
def tst.tw1295698114595041042 : Nat := 0
def tst.tw5383244849006679421 : Nat := 0
def tst.tw5052923149102668084 : Nat := 0
def tst.tw16579255946518835833 : Nat := 0
def tst.tw16047877216317121270 : Nat := 0
def tst.tw57262779313780016 : Nat := 0
def tst.tw11345347896153440846 : Nat := 0
def tst.tw5369861517027067393 : Nat := 0
def tst.tw4656536901670328520 : Nat := 0
def tst.tw7360221402165725763 : Nat := 0
def tst.tw17003153837187702738 : Nat := 0
def tst.tw4785574539565360807 : Nat := 0
def tst.tw1679527833499646630 : Nat := 0
def tst.tw3429420262143298840 : Nat := 0
def tst.tw11697518928287757499 : Nat := 0
def tst.tw10760971231900516913 : Nat := 0
def tst.tw16257889720125391783 : Nat := 0
def tst.tw3214449770522460657 : Nat := 0
def tst.tw11771694177745936179 : Nat := 0
def tst.tw4636650117267863677 : Nat := 0
def tst.tw15714118836693173851 : Nat := 0
def tst.tw10589744684012460884 : Nat := 0
def tst.tw6045929962274593236 : Nat := 0
def tst.tw16434013509345289218 : Nat := 0
def tst.tw9271328337136565190 : Nat := 0
def tst.tw5626033313196430191 : Nat := 0
def tst.tw2418901376383495077 : Nat := 0
def tst.tw9470511329645873479 : Nat := 0
def tst.tw13627802704161287176 : Nat := 0
def tst.tw14770710404474223500 : Nat := 0
def tst.tw15315919420860714166 : Nat := 0
def tst.tw16419797953981446153 : Nat := 0
def tst.tw4197800732294543850 : Nat := 0
def tst.tw12473395552576216932 : Nat := 0
def tst.tw9820801834702249146 : Nat := 0
def tst.tw747245476512642547 : Nat := 0
def tst.tw18356430970817552187 : Nat := 0
def tst.tw13578626798433225003 : Nat := 0
def tst.tw16021663737127713944 : Nat := 0
def tst.tw17623758892769816026 : Nat := 0
def tst.tw7096739532273288644 : Nat := 0
def tst.tw7369774340085015501 : Nat := 0
def tst.tw3439172772631430514 : Nat := 0
def tst.tw12591624993549086232 : Nat := 0
def tst.tw7182809644427484114 : Nat := 0
def tst.tw10218080929149231831 : Nat := 0
def tst.tw7108487630984776539 : Nat := 0
def tst.tw4197452989786206977 : Nat := 0
def tst.tw5256592278805527577 : Nat := 0
def tst.tw8756691730218851933 : Nat := 0
def tst.tw15117685889355502223 : Nat := 0
def tst.tw16357963599704913304 : Nat := 0
def tst.tw11832554189115836069 : Nat := 0
def tst.tw5919985182194998722 : Nat := 0
def tst.tw3858824246827015368 : Nat := 0
def tst.tw9580484979325540049 : Nat := 0
def tst.tw101442201513813877 : Nat := 0
def tst.tw1575671907174997999 : Nat := 0
def tst.tw14830729055145514256 : Nat := 0
def tst.tw7014496210106196192 : Nat := 0
def tst.tw18284681816677908876 : Nat := 0
def tst.tw5070939976279508780 : Nat := 0
def tst.tw7817490215800567833 : Nat := 0
def tst.tw14081907363164023076 : Nat := 0
def tst.tw9847770955074810236 : Nat := 0
def tst.tw751714913457198182 : Nat := 0
def tst.tw15076544031367882203 : Nat := 0
def tst.tw13597451649735900419 : Nat := 0
def tst.tw5756968910267532013 : Nat := 0
def tst.tw15814948332298756296 : Nat := 0
def tst.tw2137080801814148655 : Nat := 0
def tst.tw16870624956303830547 : Nat := 0
def tst.tw5193684533903766131 : Nat := 0
def tst.tw5846987866644314044 : Nat := 0
def tst.tw15953729001406087795 : Nat := 0
def tst.tw2465858108559256312 : Nat := 0
def tst.tw296693696467193735 : Nat := 0
def tst.tw8735361196558248385 : Nat := 0
def tst.tw7971091457541275888 : Nat := 0
def tst.tw14985378651129496701 : Nat := 0
def tst.tw502273265060733828 : Nat := 0
def tst.tw12868579351372207036 : Nat := 0
def tst.tw14209310122780422793 : Nat := 0
def tst.tw13564490080198672307 : Nat := 0
def tst.tw15364550570232521516 : Nat := 0
def tst.tw16079674958054691927 : Nat := 0
def tst.tw16551480708038967941 : Nat := 0
def tst.tw2803245873244071264 : Nat := 0
def tst.tw8874576175019492858 : Nat := 0
def tst.tw11042520608603115316 : Nat := 0
def tst.tw14680481177392825451 : Nat := 0
def tst.tw1794336800034027585 : Nat := 0
def tst.tw17656266684409817378 : Nat := 0
def tst.tw173364029868548367 : Nat := 0
def tst.tw12907834933357133413 : Nat := 0
def tst.tw13290314282339259746 : Nat := 0
def tst.tw7787462051093931142 : Nat := 0
def tst.tw13467101309701077875 : Nat := 0
def tst.tw4823908869731923547 : Nat := 0
def tst.tw16852273045191414607 : Nat := 0
def tst.tw2822412824286478159 : Nat := 0
def tst.tw11782263392567336655 : Nat := 0
def tst.tw3608838326937517772 : Nat := 0
def tst.tw17188881696882064580 : Nat := 0
def tst.tw14812565239605070635 : Nat := 0
def tst.tw7644839469551082388 : Nat := 0
def tst.tw12774578235198732789 : Nat := 0
def tst.tw13257364740252557323 : Nat := 0
def tst.tw12022915445495964399 : Nat := 0
def tst.tw17078068704612723490 : Nat := 0
def tst.tw12969216258868276821 : Nat := 0
def tst.tw3620787847481670476 : Nat := 0
def tst.tw6700329244550698122 : Nat := 0
def tst.tw16287763615816112337 : Nat := 0
def tst.tw11105885371609853530 : Nat := 0
def tst.tw8221552245087510398 : Nat := 0
def tst.tw1508627454378833786 : Nat := 0
def tst.tw12356289505208206437 : Nat := 0
def tst.tw16362154331794088400 : Nat := 0
def tst.tw16983142197910795572 : Nat := 0
def tst.tw6977849012349043059 : Nat := 0
def tst.tw16020173090750184040 : Nat := 0
def tst.tw17945241047928192201 : Nat := 0
def tst.tw7851214082503705581 : Nat := 0
def tst.tw9566753760112213153 : Nat := 0
def tst.tw11648346242076625163 : Nat := 0
def tst.tw2650355802038017246 : Nat := 0
def tst.tw5799008568078973612 : Nat := 0
def tst.tw5873742937066267425 : Nat := 0
def tst.tw11255834123873028751 : Nat := 0
def tst.tw7677606622762893870 : Nat := 0
def tst.tw9638972682295791069 : Nat := 0
def tst.tw16405835755185303498 : Nat := 0
def tst.tw2220093185071830451 : Nat := 0
def tst.tw16103981572737526486 : Nat := 0
def tst.tw11798373048145485052 : Nat := 0
def tst.tw17541160268551156246 : Nat := 0
def tst.tw17132125974137121795 : Nat := 0
def tst.tw10957517205251792804 : Nat := 0
def tst.tw9862810850799227517 : Nat := 0
def tst.tw15069807395184153187 : Nat := 0
def tst.tw5303401653766565770 : Nat := 0
def tst.tw10100438798801159498 : Nat := 0
def tst.tw467695613001973789 : Nat := 0
def tst.tw14373327335473515202 : Nat := 0
def tst.tw17752592421042665492 : Nat := 0
def tst.tw123916111120089901 : Nat := 0
def tst.tw6267586282480476938 : Nat := 0
def tst.tw148868004361949927 : Nat := 0
end Mine
set_option Elab.async true
theorem Mine.tst : PySem.Challenge.rw_hb0008_01.Holds := by
  w_on
  o_law
  k_head
  (case hw => w_witness2)
  k_go0
  with_reducible show wpAny _ (callerA.deeper (envOfC _ _ _ _ _)) (execs _ (envOfC _ _ _ _ _)) _ _ _
  show wpAny _ (callerA.deeper (envOfC _ Mine.lawScope _ _ _)) _ _ _ _
  show wpAny _ _ (execs Mine.lawBody _) _ _ _
  refine' Mine.stageA _ _ _ _ _ _ _ _ _ _ _ _ _ _ _ _ _ _ _ _ ?zqd1 ?zqd2 ?zqhm ?zqhS ?zqhi ?zqhl ?zqB ?zqX ?zqT ?zqF ?zqN ?zqhQ
  case zqB => assumption
  case zqX => exact (show (Mine.hd.heap_1 _).In _ from ‹(Mine.tst.heap_1_39 _).In _›)
  case zqT => assumption
  case zqF => assumption
  case zqN => exact kst_newsOf (by assumption) (Mine.fa_cons (.tail _ (.head _)) (List.forall_mem_singleton.mpr (.head _)))
  case zqd1 => assumption
  case zqd2 => assumption
  case zqhS => assumption
  case zqhi => assumption
  case zqhm => exact List.forall_mem_singleton.mpr rfl
  case zqhl => omega
  case zqhQ => intro h' tk' m' hk; dsimp only; wrow_close
theorem PySem.Challenge.cw_hb0008_01_holds : PySem.Challenge.rw_hb0008_01.Holds :=
  Mine.tst
