import PyProof.Rows.All
import Wide.All
import OpenK.AllK
import Wide.FinOn
import PySem.Challenge.RW_pb0094_01
open PySem PySem.W PyProof.Rows PySem.Calls
set_option Elab.async false
set_option maxRecDepth 100000
set_option maxHeartbeats 8000000
set_option rowWalk.seconds 0
set_option linter.unusedVariables false
set_option compiler.extract_closed false
namespace Mine
/-- a builtin's code that may hold a bytearray while it runs -/
noncomputable def dirty : Code → Bool
  | .builtin id _ => ["bytearray.__contains__", "bytearray.__mod__", "bytearray.__rmod__", "_struct.pack_into.held", "bytearray.find.held"].contains id || Builtin.Bytes.decodersThatHold.contains id
  | _ => false
/-- none such is on the stack -/
noncomputable def Cln (l : List (Code × Pos)) : Prop := ∀ x ∈ l, dirty x.1 = false
/-- as wpAny, at a stack where nothing holds a bytearray -/
noncomputable def wpS {α : Type} (M : Model) (A : Around) (t : Sem α) (Q : α → Shared → Prop) (E : Value → Shared → Prop) (s : Shared) : Prop :=
  ∀ Γ p, Γ.In A → dirty Γ.code = false → Cln Γ.below → Sem.wp M Γ t (fun a _ s' => Q a s') (fun e _ s' => E e s') p s
noncomputable def codeS (M : Model) (A : Around) (c : Code) (R : Result → Shared → Prop) (s : Shared) : Prop :=
  ∀ Γ p, Γ.code = c → Γ.Below A → Cln Γ.below → wpCode M Γ R p s
section
variable {α β : Type} {M : Model} {A : Around} {E : Value → Shared → Prop} {s : Shared}
theorem wpS_any {t : Sem α} {Q : α → Shared → Prop} (h : wpAny M A t Q E s) : wpS M A t Q E s := fun Γ p hΓ _ _ => h Γ p hΓ
theorem codeS_any {c : Code} {R : Result → Shared → Prop} (h : codeAny M A c R s) : codeS M A c R s := fun Γ p hc hΓ _ => h Γ p hc hΓ
theorem wpS_mono {t : Sem α} {Q Q' : α → Shared → Prop} {E' : Value → Shared → Prop} (h : wpS M A t Q E s) (hQ : ∀ a s, Q a s → Q' a s) (hE : ∀ e s, E e s → E' e s) : wpS M A t Q' E' s :=
  fun Γ p hΓ h1 h2 => Sem.wp_mono M Γ t (fun a _ s => hQ a s) (fun e _ s => hE e s) p s (h Γ p hΓ h1 h2)
theorem wpS_pure {a : α} {Q : α → Shared → Prop} (h : Q a s) : wpS M A (pure a) Q E s := wpS_any (wpAny_pure h)
theorem wpS_bind {m : Sem α} {f : α → Sem β} {Q : β → Shared → Prop} (h : wpS M A m (fun a s' => wpS M A (f a) Q E s') E s) : wpS M A (m >>= f) Q E s := fun Γ p hΓ h1 h2 => by
  rw [Sem.wp_bind']
  exact Sem.wp_mono M Γ m (fun a p' s' h' => h' Γ p' hΓ h1 h2) (fun _ _ _ h' => h') p s (h Γ p hΓ h1 h2)
/-- a plain start, and the rest as it must be -/
theorem wpS_first {m : Sem α} {f : α → Sem β} {Q : β → Shared → Prop} (h : wpAny M A m (fun a s' => wpS M A (f a) Q E s') E s) : wpS M A (m >>= f) Q E s := wpS_bind (wpS_any h)
theorem wpS_holding {vs : List Value} {m : Sem α} {Q : α → Shared → Prop} (h : wpS M A m Q E s) : wpS M A (holding vs m) Q E s := fun Γ p hΓ h1 h2 => by rw [Sem.wp_holding]; exact h Γ p hΓ h1 h2
theorem wpS_onRaise {m : Sem α} {k : Value → Sem Unit} {Q : α → Shared → Prop} (h : wpS M A m Q (fun e s' => wpAny M A (k e) (fun _ s'' => E e s'') E s') s) : wpS M A (m.onRaise k) Q E s := fun Γ p hΓ h1 h2 => by
  rw [Sem.wp_onRaise]
  exact Sem.wp_mono M Γ m (fun _ _ _ h' => h') (fun e p' s' h' => h' Γ p' hΓ) p s (h Γ p hΓ h1 h2)
theorem wpS_attempt {m : Sem α} {Q : Except Value α → Shared → Prop} (h : wpS M A m (fun a => Q (.ok a)) (fun e => Q (.error e)) s) : wpS M A m.attempt Q E s := fun Γ p hΓ h1 h2 => by
  rw [Sem.wp_attempt]; exact h Γ p hΓ h1 h2
theorem wpS_of_in1 {t : Sem α} {Q : α → Shared → Prop} (h : wpS M A.in1 t Q E s) : wpS M A t Q E s :=
  fun Γ p hΓ => h Γ p ⟨hΓ.1, hΓ.2.1, hΓ.2.2.1, hΓ.2.2.2.1, Nat.le_succ_of_le hΓ.2.2.2.2⟩
theorem codeS_mono {c : Code} {R R' : Result → Shared → Prop} (h : codeS M A c R s) (hR : ∀ r s, R r s → R' r s) : codeS M A c R' s := fun Γ p hc hΓ hb => wpCode_mono hR (h Γ p hc hΓ hb)
theorem cln_push {Γ : Ctx} {p : Pos} (h1 : dirty Γ.code = false) (h2 : Cln Γ.below) : Cln ((Γ.code, p) :: Γ.below) := fun x hx => by
  rcases List.mem_cons.mp hx with rfl | hx
  · exact h1
  · exact h2 x hx
theorem wpS_run {c : Code} {h : Option Value} {Q : Flow → Shared → Prop} (hc : codeS M (A.mark h) c (fun r s' => match r with | .ok f => Q f s' | .error e => E e s') s) (hnb : h ≠ some byPass := by intro x; cases x) : wpS M A (run c h) Q E s :=
  fun Γ p hΓ h1 h2 => by rw [Sem.wp_run]; exact hc _ p rfl (hΓ.enter c h p hnb) (cln_push h1 h2)
theorem wpS_call {f : Value} {pos : List Value} {kw : List (Str × Value)} {Q : Value → Shared → Prop}
    (hc : codeS M A (.call f ⟨pos, kw⟩) (fun r s' => match r with | .ok (.ret v) => Q v s' | .ok _ => False | .error e => E e s') s) : wpS M A (call f pos kw) Q E s :=
  fun Γ p hΓ h1 h2 => by
    show Sem.wp M Γ (runValue _) _ _ p s
    rw [Sem.wp_runValue]; exact hc _ p rfl (hΓ.enter _ none p (by intro x; cases x)) (cln_push h1 h2)
theorem codeS_of_tree {c : Code} {R : Result → Shared → Prop} (hd : dirty c = false)
    (h : wpS M (A.under c) (M.den c) (fun fin s' => match fin with | .done f => R (.ok f) s' | .again c' => c'.quiet = true ∧ codeS M A c' R s') (fun e s' => R (.error e) s') s) : codeS M A c R s := fun Γ p hc hΓ hb => by
  rw [wpCode_iff_wp, hc]
  refine Sem.wp_mono M Γ _ (fun fin p' s' h' => ?_) (fun _ _ _ h' => h') p s (h Γ p (hc ▸ hΓ.in) (hc ▸ hd) hb)
  cases fin with
  | done f => exact h'
  | again c' => exact ⟨h'.1, h'.2 (Γ.goto c') p' rfl (hΓ.goto c') hb⟩
theorem wpS_exported {v : Value} {Q : Bool → Shared → Prop} (h : Q false s) : wpS M A (Builtin.Bytes.exported v) Q E s := fun Γ p hΓ h1 h2 => by
  show Q (((Γ.code, p) :: Γ.below).any _) s
  rw [List.any_eq_false.mpr ?_]
  · exact h
  intro x hx
  have hd := cln_push (p := p) h1 h2 x hx
  obtain ⟨c, p'⟩ := x
  cases c with
  | builtin id args =>
    have d := Bool.or_eq_false_iff.mp (show (_ || _) = false from hd)
    have n : ∀ l, l ∈ ["bytearray.__contains__", "bytearray.__mod__", "bytearray.__rmod__", "_struct.pack_into.held", "bytearray.find.held"] → ¬ id = l := fun l hl e => by
      subst e
      exact Bool.false_ne_true (d.1.symm.trans (List.contains_iff_mem.mpr hl))
    delta Builtin.Bytes.exported.match_1
    show ¬ (dite (id = "bytearray.__contains__") _ _) = true
    rw [dif_neg (n _ (.head _)), dif_neg (n _ (.tail _ (.head _))), dif_neg (n _ (.tail _ (.tail _ (.head _)))), dif_neg (n _ (.tail _ (.tail _ (.tail _ (.head _))))), dif_neg (n _ (.tail _ (.tail _ (.tail _ (.tail _ (.head _))))))]
    obtain ⟨pos, kw⟩ := args
    cases pos with
    | nil => exact Bool.false_ne_true
    | cons u us =>
      show ¬ (_ && Builtin.Bytes.decodersThatHold.contains id) = true
      rw [d.2, Bool.and_false]
      exact Bool.false_ne_true
  | _ => exact Bool.false_ne_true
end
section
variable {prog : Program} {w : World} {A : Around} {s : Shared} {R : Result → Shared → Prop}
theorem codeS_func {body : List Stmt} {env : Env}
    (h : wpS (model prog w) (A.deeper env) (execs body env) (fun f s' => R (.ok (.ret (match f with | .ret v => v | _ => .none))) s')
      (fun e s' => wpAny (model prog w) (A.deeper env) (leaving env e) (fun _ s'' => R (.error e) s'') (fun e' s'' => R (.error e') s'') s') s) : codeS (model prog w) A (.func body env) R s := by
  refine codeS_of_tree rfl ?_
  show wpS _ (A.deeper env) (do point; match ← (execs body env).onRaise (leaving env) with | .ret v => ret v | _ => ret .none) _ _ s
  refine wpS_first (wpAny_point (wpS_bind (wpS_onRaise (wpS_mono h (fun f s' h' => ?_) fun _ _ h' => h'))))
  cases f <;> exact wpS_pure h'
theorem codeS_call_function {a : Addr} {args : Args} {o : Obj} {fd : FuncData} {body : List Stmt} (hroom : A.depth < recursionLimit) (ho : s.heap.get? a = some o) (hd' : o.data = .func fd)
    (hco : fd.scope.isCoroutine = false) (hgen : fd.scope.isGenerator = false) (hbody : fd.body = .stmts body) (hcd : s.heap.CodeRec fd.code fd.qualname)
    (h : wpAny (model prog w) A.in1 (bindArgs fd args) (fun binds s₁ =>
      wpAny (model prog w) A.in1 (newFunctionEnv fd.scope fd.globals fd.closure binds (fd.qualname ++ ".<locals>.") (some a) fd.code none fd.builtins)
        (fun env s₂ => s₂.heap.NoLimit ∧ codeS (model prog w) A (.func body env) R s₂) (fun e s' => R (.error e) s') s₁) (fun e s' => R (.error e) s') s) : codeS (model prog w) A (.call (.ref a) args) R s := by
  refine codeS_of_tree rfl ?_
  show wpS _ A.in1 (callAny (.ref a) args) _ _ s
  simp only [callAny]
  refine wpS_any (wpAny_bind (wpAny_load ho ?_))
  obtain ⟨c, oc, vs, tq, hc, hoc, hdc, hq⟩ := hcd
  simp only [hd', callFunction, hco, hgen, hbody, hc]
  rw [hc] at h
  refine wpAny_bind (m := field (.ref c) 1) (wpAny_field hoc hdc hq (wpAny_bind (wpAny_pure ?_)))
  exact wpAny_bind (wpAny_mono h (fun binds s₁ h₁ => wpAny_bind (wpAny_mono h₁ (fun env s₂ h₂ => wpAny_bind (wpAny_enterFrame h₂.1 hroom (wpAny_pure (And.intro rfl h₂.2)))) fun _ _ h' => h')) fun _ _ h' => h')
end
/-- the whole walk's goal, asked at clean stacks alone -/
noncomputable abbrev WalkS (q : Program) (loose : List Str) (XP : (Str → Option Value) → Heap → Prop) (YP : World → Heap → Prop) (r : RowW) (d : DefRec) (kwd : List (Str × Expr)) : Prop :=
  ∀ (w : World) (s₀ s₁ : Shared) (mg mb : Str → Option Value), Ground q loose r.records XP w s₀ mg mb s₁.heap → YP w s₁.heap → ∀ (a : Addr) (o : Obj) (pm cd doc dV kV : Value), s₁.heap.get? a = some o →
    o.data = .func { docDef d.name d.params d.body d.scope pm cd doc with defaults := dV, kwdefaults := kV } → s₁.heap.CodeRec cd d.name → Dflts mg s₁.heap d.params kwd dV kV → mg d.name = some (.ref a) → s₁.gens = #[] →
    ∀ (args : List WData) (vals : List Value) (as : List Addr), r.claim.pre args = true → WData.layableAll args = true → ReadsAllW r.records (classAt s₀.heap) s₁.heap vals args as → WellAll w.params s₁.heap vals args → (∀ a ∈ as, (a == sysModules) = false) →
      wpS (model r.prog w) callerA (call (.ref a) vals) (fun v s' => GoodWG r.claim (classAt s₀.heap) (ExcName.means s₀.heap) args s₁ (.ok (.ret v)) s')
        (fun e s' => GoodWG r.claim (classAt s₀.heap) (ExcName.means s₀.heap) args s₁ (.error e) s') s₁
/-- what the caller's own tree brings about is what the claim asks of it -/
theorem callFromS {c : ClaimW} {tree : List Value → Sem Fin} {w : World} {s : Shared} {free : Addr → Prop} {gens : Prop} {kept : Heap → Prop} (hz : s.asleep) (hgens : s.gens = #[])
    (hspec : ∀ args, c.pre args = true → WData.layableAll args = true → ∀ ord : List DictEntry → List DictEntry, (∀ l, (ord l).Perm l) →
      ∃ vs s₁, layAllW c.records (classAt s.heap) w.params ord args s = some (vs, s₁) ∧
        wpS (model c.prog w) callerA (tree vs) (fun fin s' => ∃ f, fin = .done f ∧ (c.Ends s args vs s₁ (.ok f) s' ∧ s'.os = s.os ∧ AllBare s'.gens ∧ kept s'.heap))
          (fun e s' => c.Ends s args vs s₁ (.error e) s' ∧ s'.os = s.os ∧ AllBare s'.gens ∧ kept s'.heap) s₁) : c.CallFrom (fun vs => ⟨tree vs, .builtin "claim.caller" {}, default, []⟩) w free gens kept s := by
  intro args hpre hlay ord hord
  obtain ⟨vs, s₁, hlaid, hcode⟩ := hspec args hpre hlay ord hord
  have hal := layAllW_rest _ _ _ hlaid
  have hwp := hcode ⟨.builtin "claim.caller" {}, none, none, [], none⟩ default caller_in (by decide +kernel) (fun x hx => nomatch hx)
  obtain ⟨k, r, s'', s', hsched, hrun, hfo, ⟨hcase, hos, hkp⟩⟩ := wp_halts_full (M := model c.prog w) (R := fun r s' => c.Ends s args vs s₁ r s' ∧ s'.os = s.os ∧ kept s'.heap) (Shared.asleep_of_life hal.2.2.2 hz)
    (Sem.wp_mono (model c.prog w) _ (tree vs) (fun fin p' s' h' => by
      obtain ⟨f, rfl, h1, h2, h3, h4⟩ := h'
      exact ⟨⟨h1, h2, h4⟩, leftWithCleanup_false_of_bare h3⟩) (fun e _ s' h' => ⟨⟨h'.1, h'.2.1, h'.2.2.2⟩, leftWithCleanup_false_of_bare h'.2.2.1⟩) _ _ hwp)
  obtain ⟨eh, _, _, eo, _⟩ := Shared.forget_eq hfo
  have hcase := hcase.congr eh
  rw [← eh] at hkp
  rw [← eo] at hos
  have hlife : s'.heap.life = s.heap.life := (runN_life _ _ _ hrun).trans hal.2.2.2
  refine ⟨vs, s₁, hlaid, k, _, s', hsched, ?_, (fun _ i x hx => by rw [hgens] at hx; simp at hx), hkp, by rw [hlife], Shared.rest_eq hos⟩
  rcases hcase with ⟨v, rfl, d1, d2, d3, d4, d5⟩ | ⟨e, ob, cls, rfl, d1, d2, d3, d4, d5⟩
  · exact .inl ⟨v, rfl, d1, d2, d3, fun b o y _ => d4 b o y, d5⟩
  · exact .inr ⟨e, ob, cls, rfl, d1, d2, d3, d4, fun b o y _ => d5 b o y⟩
/-- the head, for a walk at clean stacks -/
theorem PySem.W.holds_open {r : OpenRow} {q : Program} {loose : List Str} {Xt : Shared → Bool} {XP : (Str → Option Value) → Heap → Prop} {α : Type} {Yf : Shared → α} {Ya : World → α} {YP : World → Heap → Prop} {d : DefRec} {kwd : List (Str × Expr)} {N : Nat}
    (left0 : ∀ w : World, (openEnds treeTable r.prog w N).map (fun s => (openSeen q loose (importedModules r.prog.main.body) Xt true s, Yf s)) = some (openGood q loose, Ya w)) (hY : ∀ w s, Yf s = Ya w → YP w s.heap) (hYk : ∀ w h h', YP w h → (∀ b o, h.get? b = some o → h'.get? b = some o) → YP w h')
    (hX : ∀ s, Xt s = true → XP (s.heap.nsMap mainGlobals) s.heap) (hXk : ∀ mg h h', XP mg h → (∀ b o, h.get? b = some o → h'.get? b = some o) → XP mg h')
    (hdef : defOf q r.name = some (d, kwd)) (hp : r.prog.theDef r.name = some (d.params, d.body, d.scope)) (hk : kwWritten? d.params.kwonlyargs d.params.kw_defaults = some kwd) (hRf : ∀ s, Xt s = true → RecFacts r.records s.heap) (hwr : (!r.writes || r.records.isEmpty) = true)
    (k1 : r.wellSaid = true) (ok : (chainsOk q && opensWell r.prog && (frees r.toRowW && r.within.isEmpty)) = true) (hb : r.prog.bare) (hw : r.toRowW.promised)
    (walk : WalkS q loose XP YP r.toRowW d kwd) : r.Holds := by
  obtain ⟨ok, k5⟩ := Bool.and_eq_true_iff.mp ok
  obtain ⟨hch, o1⟩ := Bool.and_eq_true_iff.mp ok
  obtain ⟨k5, k6⟩ := Bool.and_eq_true_iff.mp k5
  obtain ⟨hsame, hu, ha, hap, hm⟩ := frees_parts k5
  have left : LeftO r.prog q loose Xt Yf Ya N := left0
  refine ⟨k1, hw, ⟨hb, o1, by show r.makers.map _ = []; rw [hm]; rfl⟩, hw.witness, fun w => ⟨(left.behind hX hch w).1, fun s' hs' => ?_⟩⟩
  obtain ⟨s₀, hf, hg0, s, hT, hz, hgens, hg, G00, y⟩ := (left.behind (XP := fun mg h => XP mg h ∧ RecFacts r.records h) (fun s hs => ⟨hX s hs, hRf s hs⟩) hch w).2 s' hs'
  have G0 : Ground q loose [] XP w s (s.heap.nsMap mainGlobals) (s.heap.nsMap builtinsNs) s.heap := ⟨G00.T, G00.B, G00.D, G00.TE, G00.TD, G00.W, G00.X.1, G00.cls, G00.has, G00.apart, G00.once, G00.K⟩
  have RF := G00.X.2
  have hT' := hT
  refine ⟨s₀, hf, hg0, s, hT, fun n hn => ?_, RF.1, RF.2.1, ?_⟩
  · obtain rfl : n = r.name := by split at hn <;> simp_all
    exact pinned_of_view hg G0 hdef hp hk
  have hgens : s.gens = #[] := Array.eq_empty_of_size_eq_zero (beq_iff_eq.mp hgens)
  have G : Ground q loose r.records XP w s _ _ s.heap := RF.ground G0
  refine callFromS (c := r.toRowW.claim) hz hgens fun args hpre hlay ord hord => ?_
  obtain ⟨⟨vs, s₁⟩, hlaid⟩ := Option.isSome_iff_exists.mp (layAllW_isSome (P := w.params) (ord := ord) G.has args r.args s (pre_splitW hpre).1)
  have keeps := layAllW_keeps _ _ _ hlaid
  have hal := layAllW_rest _ _ _ hlaid
  obtain ⟨as, hrd, hin, hold⟩ := reads_layAllW hord _ _ _ hlaid hlay s₁.heap (fun _ _ e => e)
  have L : Laid r.records w s s₁ args vs as := ⟨⟨ord, hord, hlaid⟩, hrd, hin, hold, keeps, hal.1.trans hgens, hal.2.2.1⟩
  have G₁ := G.keeps hXk keeps
  obtain ⟨a, o, pm, cd, doc, dV, kV, h1, h2, h3, h4, h5⟩ := G₁.fn hdef
  have h := walk w s s₁ _ _ G₁ (hYk _ _ _ (hY w s y) keeps) a o pm cd doc dV kV h2 h3 h4 h5 (defOf_name hdef ▸ h1) L.gens args vs as hpre hlay L.reads L.well (L.low G.low)
  have hi := ident_freeW hu ha hap
  have hwi : r.toRowW.claim.within = [] := List.isEmpty_iff.mp k6
  refine ⟨vs, s₁, hlaid, wpS_first (wpAny_nsGet G₁.T.g ?_)⟩
  rw [h1]
  refine wpS_bind (wpS_mono h (fun v s' g => wpS_pure ⟨_, rfl, ?_⟩) fun e s' g => ?_)
  · have z := g.laid (c := r.toRowW.claim) hsame hwi hi L
    exact ⟨z.1, z.2.1, z.2.2, fun q => ⟨namesKept_of hT' hg _ keeps g.2.1.old, noTable hwr q⟩⟩
  · have z := g.laid (c := r.toRowW.claim) hsame hwi hi L
    exact ⟨z.1, z.2.1, z.2.2, fun q => ⟨namesKept_of hT' hg _ keeps g.2.1.old, noTable hwr q⟩⟩
open_top hd for PySem.Challenge.rw_pb0094_01
theorem walk_off : True := by
  w_top off
  trivial
/-- the heap h holds the ground g, and beside it the ledger -/
noncomputable def Led (g h : Heap) (news : List (Addr × Obj)) : Prop :=
  (∀ b o, g.get? b = some o → h.get? b = some o) ∧ g.objs.size ≤ h.objs.size ∧ ∀ p ∈ news, h.get? p.1 = some p.2 ∧ g.get? p.1 = none
theorem Led.refl (h : Heap) : Led h h [] := ⟨fun _ _ e => e, Nat.le_refl _, fun _ hp => nomatch hp⟩

section
variable {prog : Program} {w : World} {A : Around} {s : Shared} {base g : Heap} {outer : List Env} {news : List (Addr × Obj)} {K : Frag} {p : Program} {loose : List Str} {mean : ExcName → Option Value} {mg mb : Str → Option Value}
  {name qual : Str} {params : Arguments} {body : List Stmt} {scope : Scope} {dV kV doc pm cdv ct oc : Value} {an od : Option Addr} {osl : Array (Option Value)} {f : Addr} {vals : List Value} {binds : List (Str × Value)} {Q E : Value → Shared → Prop}

theorem enterP (B : Below A base outer g) (X : K.In g) (T : Top p loose mean mg mb g) (G : Led g s.heap news)
    (ho : K.lookup f = some ⟨oc, od, .func (fnOf name qual params body scope dV kV doc pm an cdv ct), osl⟩) (hcd : codeIn K cdv qual = true) (hroom : A.depth < recursionLimit)
    (hbind : BindsTo s (fnOf name qual params body scope dV kV doc pm an cdv ct) ⟨vals, []⟩ binds) (hloc : ∀ y ∈ binds, scope.names.lookup y.1 = some .local)
    (h : ∀ L' h₁, Fr g L' h₁ (fun y => binds.reverse.lookup y) → News g L' h₁ news →
      wpAny (model prog w) (A.deeper (envOf qual scope L' f cdv)) (execs body (envOf qual scope L' f cdv))
        (fun fl s' => Q (match fl with | .ret v => v | _ => .none) s')
        (fun e s' => wpAny (model prog w) (A.deeper (envOf qual scope L' f cdv)) (leaving (envOf qual scope L' f cdv) e) (fun _ s'' => E e s'') (fun e' s'' => E e' s'') s')
        { s with heap := h₁, toks := s.toks + binds.length })
    (hco : scope.isCoroutine = false) (hgen : scope.isGenerator = false) (hk : scope.kind = .function)
    (hcell : ∀ x ∈ scope.names, x.2 ≠ .cell) : wpAny (model prog w) A (call (.ref f) vals) Q E s := by
  have _ := B.stack
  refine wpAny_call ?_
  refine codeAny_call_def (fd := fnX name qual params body scope [] dV kV doc pm an cdv ct) (body := body) (binds := binds) hroom (G.1 _ _ (X _ _ ho)) rfl (T.nolimit.keeps G.1) (codeRec_of (X.keeps G.1) hcd) rfl hbind hcell hloc (fun h₁ hns hk₁ => ?_) hco hgen hk
  exact h _ h₁ ⟨hns, fun b o e => hk₁ b o (G.1 b o e), G.2.1⟩ (fun q hq => ⟨hk₁ _ _ (G.2.2 q hq).1, Nat.ne_of_lt (Heap.lt_size (G.2.2 q hq).1), (G.2.2 q hq).2⟩)

theorem enterC (B : Below A base outer g) (X : K.In g) (T : Top p loose mean mg mb g) (G : Led g s.heap news)
    (ho : K.lookup f = some ⟨oc, od, .func (fnOf name qual params body scope dV kV doc pm an cdv ct), osl⟩) (hcd : codeIn K cdv qual = true) (hroom : A.depth < recursionLimit)
    (hbind : BindsTo s (fnOf name qual params body scope dV kV doc pm an cdv ct) ⟨vals, []⟩ binds) (hkind : (binds.all fun y => scope.names.lookup y.1 == some .local || scope.names.lookup y.1 == some .cell) = true)
    (hnd : ((cellsFrom 0 scope.names []).map (·.1)).Nodup)
    (h : ∀ L' h₁ tk cells, Fr g L' h₁ (bindL (envOfC qual scope L' f cdv).kindOf binds fun _ => none) → News g L' h₁ (cells ++ news) →
      CellsAre (bindC (envOfC qual scope L' f cdv).kindOf binds fun _ => none) (cellsFrom (L' + 1) scope.names []) cells → (∀ p ∈ news, p.1 < L') →
      wpAny (model prog w) (A.deeper (envOfC qual scope L' f cdv)) (execs body (envOfC qual scope L' f cdv))
        (fun fl s' => Q (match fl with | .ret v => v | _ => .none) s')
        (fun e s' => wpAny (model prog w) (A.deeper (envOfC qual scope L' f cdv)) (leaving (envOfC qual scope L' f cdv) e) (fun _ s'' => E e s'') (fun e' s'' => E e' s'') s')
        { s with heap := h₁, toks := tk })
    (hco : scope.isCoroutine = false) (hgen : scope.isGenerator = false) (hk : scope.kind = .function) : wpAny (model prog w) A (call (.ref f) vals) Q E s := by
  have _ := B.stack
  refine wpAny_call ?_
  refine codeAny_call_function hroom (G.1 _ _ (X _ _ ho)) rfl hco hgen rfl (codeRec_of (X.keeps G.1) hcd) (hbind _ _ _ _ ?_)
  refine wpAny_newFunctionEnv_cells hk (kindsX hkind _) fun env' he s' x => ?_
  subst he
  refine ⟨(T.nolimit.keeps G.1).keeps x.toInCall.keep, codeAny_func ?_⟩
  obtain ⟨h₁, tk, rfl, _⟩ := x.done
  have hk₁ := x.toInCall.keep
  obtain ⟨cells, NC, Y⟩ := Cl.news (h₀ := s.heap) (Nat.le_refl _) fun n c hm => ⟨x.cell n c (lookup_of_mem_nodup (cellsFrom_names scope.names 0 (s.heap.objs.size + 1) [] [] rfl ▸ hnd) hm), x.above n c hm⟩
  refine h _ h₁ tk cells ⟨x.toInCall.ns, fun b o e => hk₁ b o (G.1 _ _ e), G.2.1⟩ (fun q hq => ?_) Y (fun q hq => Heap.lt_size (G.2.2 q hq).1)
  rcases List.mem_append.mp hq with hq | hq
  · refine ⟨(NC q hq).1, (NC q hq).2.1, ?_⟩
    cases hg : g.get? q.1 with
    | none => rfl
    | some o => have := G.1 _ _ hg; rw [(NC q hq).2.2] at this; cases this
  · exact ⟨hk₁ _ _ (G.2.2 q hq).1, Nat.ne_of_lt (Heap.lt_size (G.2.2 q hq).1), (G.2.2 q hq).2⟩
end

/-- where a call stands: the stack's marks, written out -/
noncomputable abbrev At (dp un : Nat) (gd : Option (List Code)) (outer : List Env) : Around := { handled := none, depth := dp, frames := some outer, guards := gd, units := un }

noncomputable abbrev PG : Program := PySem.Challenge.rw_pb0094_01.row.prog
noncomputable abbrev LO : List Str := looseW hd.view_39 [Str.ofString "GitError"]

/-- what a call that changes nothing hands on -/
noncomputable abbrev Keeps (h h' : Heap) : Prop := ∀ b o, h.get? b = some o → h'.get? b = some o

theorem at_of {A : Around} {base : Heap} {outer : List Env} {g : Heap} (hh : A.handled = none) (B : Below A base outer g) : A = At A.depth A.units A.guards outer := by
  obtain ⟨h, d, f, gd, u⟩ := A
  have e := B.stack
  dsimp only at e hh
  subst e; subst hh; rfl
theorem m_open {A : Around} {base : Heap} {outer : List Env} {g : Heap} {k j : Nat} {M : Model} {s : Shared} {t : Sem Value} {Q E : Value → Shared → Prop} (hh : A.handled = none) (B : Below A base outer g) (hd : A.depth + k < recursionLimit) (hu : A.units + j < cLine)
    (h : ∀ dp un gd, Below (At dp un gd outer) base outer g → dp + k < recursionLimit → un + j < cLine → wpAny M (At dp un gd outer) t Q E s) : wpAny M A t Q E s := by
  have e := at_of hh B
  rw [e] at B
  have r := h _ _ _ B hd hu
  rw [← e] at r
  exact r
theorem s_open {A : Around} {base : Heap} {outer : List Env} {g : Heap} {s : Shared} {Q E : Value → Shared → Prop} {j k : Nat} {M : Model} {t : Sem Value} (hh : A.handled = none) (B : Below A base outer g) (hd : A.depth + k < recursionLimit) (hu : A.units + j < cLine)
    (h : ∀ dp un gd, Below (At dp un gd outer) base outer g → dp + k < recursionLimit → un + j < cLine → wpS M (At dp un gd outer) t Q E s) : wpS M A t Q E s := by
  have e := at_of hh B
  rw [e] at B
  have r := h _ _ _ B hd hu
  rw [← e] at r
  exact r
/-- a stop for the walk -/
noncomputable def Hold (p : Prop) : Prop := p
theorem Hold.out {p : Prop} (h : Hold p) : p := h
/-- a mark in the context: at what the walk stops -/
inductive Mark (x : String) : Prop
  | on : Mark x
theorem Mark.hold (x : String) {p : Prop} (_ : Mark x) (h : Hold p) : p := h
theorem Mark.go (x : String) {p : Prop} (_ : Mark x) (h : p) : p := h
theorem room_d {A : Around} {env : Env} {a b c : Nat} (h : A.depth + b < c) (e : Nat.ble (1 + a) b = true) : (A.deeper env).depth + a < c := by
  have := Nat.le_of_ble_eq_true e
  show A.depth + 1 + a < c
  omega
theorem room_u {A : Around} {env : Env} {a b c : Nat} (h : A.units + b < c) (e : Nat.ble (3 + a) b = true) : (A.deeper env).units + a < c := by
  have := Nat.le_of_ble_eq_true e
  show A.units + 3 + a < c
  omega
theorem room_0 {A : Around} {b c : Nat} (h : A.depth + b < c) : A.depth < c := Nat.lt_of_le_of_lt (Nat.le_add_right _ _) h
local macro_rules
  | `(tactic| walk_at "m_hold") => `(tactic| refine Hold.out ?_)
  | `(tactic| walk_at "m_B") => `(tactic| exact pushX (by k_asm) (by k_asm) rfl rfl)
  | `(tactic| walk_at "m_X") => `(tactic| exact Frag.In.keeps (by k_asm) (Fr.keep (by k_asm)))
  | `(tactic| walk_at "m_T") => `(tactic| exact Top.keeps (by k_asm) (Fr.keep (by k_asm)))
  | `(tactic| walk_at "m_prem") => `(tactic| ((case kh => rfl); (case kB => walk_at "m_B"); (case kX => walk_at "m_X"); (case kT => walk_at "m_T"); (case kd => walk_at "m_rd"); (case ku => walk_at "m_ru")))
  | `(tactic| walk_at "m_for") => `(tactic| (k_here; (rename Fr _ _ _ _ => lF'); (with_unfolding_all refine' For_invVF lF' ?k1 ?k2 ?_; (case k1 => exact rfl); (case k2 => exact rfl); k_whole)))
  | `(tactic| walk_at "eval ListComp") => `(tactic| refine Mark.hold "comp" (by assumption) ?_)
  | `(tactic| walk_at "exec For") => `(tactic| (refine Mark.go "for" (by assumption) ?_; walk_at "m_for"))
  | `(tactic| walk_at "pyIter bytes") => `(tactic| refine Mark.hold "bytes" (by assumption) ?_)
  | `(tactic| walk_at "pyIter ref") => `(tactic| refine Mark.hold "ref" (by assumption) ?_)
  | `(tactic| walk_at "pyIter str") => `(tactic| refine Mark.hold "str" (by assumption) ?_)
  | `(tactic| walk_at "call ref") => `(tactic| refine Mark.hold "call" (by assumption) ?_)
  | `(tactic| walk_at "exec Try") => `(tactic| refine Mark.hold "try" (by assumption) ?_)
  | `(tactic| walk_at "setAttr ref") => `(tactic| refine Mark.hold "attr" (by assumption) ?_)
  | `(tactic| walk_at "m_rd") => `(tactic| first | exact room_d (by assumption) rfl | exact room_0 (by assumption) | ktr_room)
  | `(tactic| walk_at "m_ru") => `(tactic| first | exact room_u (by assumption) rfl | ktr_units)
variable (w : World) {A : Around} {outer : List Env} {base : Heap} {mean : ExcName → Option Value} {mg mb : Str → Option Value} {s : Shared} {Q E : Value → Shared → Prop}

section
variable {prog : Program} {w : World} {A : Around} {E : Value → Shared → Prop} {s : Shared} {env : Env} {h₀ : Heap} {x : Str} {body : List Stmt} {Q : Flow → Shared → Prop}
  {m₀ : Str → Option Value} {news : List (Addr × Obj)}
/-- a loop over bytes: what holds behind the first i of them -/
theorem iterB {b : Array UInt8} {tb : Tok} {ks : List Int} (J : Nat → (Str → Option Value) → List (Addr × Obj) → Prop)
    (hk : KBw.bInts b = ks) (hh : A.handled = none) (F : Fr h₀ env.locals s.heap m₀) (N : News h₀ env.locals s.heap news) (hJ : J 0 m₀ news)
    (turn : ∀ i k t m₁ nx h tk own, ks[i]? = some k → OwnOff own (news.map (·.1)) → nx.map (·.1) = news.map (·.1) → J i m₁ nx → Fr h₀ env.locals h (fun y => if y = x then some (.int k t) else m₁ y) → News h₀ env.locals h (nx ++ own) →
      wpAny (model prog w) A (execs body env) (InvPostN h₀ env.locals (J (i + 1)) own (news.map (·.1)) { s with heap := h, toks := tk } Q) E { s with heap := h, toks := tk })
    (done : ∀ m₁ nx h tk, J ks.length m₁ nx → Fr h₀ env.locals h m₁ → News h₀ env.locals h nx → Q .next { s with heap := h, toks := tk }) :
    wpAny (model prog w) A (pyIter (.bytes b tb)) (fun it s₂ => LoopAtV prog w A h₀ env x body Q E it s₂) E s := by
  subst hk
  refine KBw.pyIter_bytes ?_
  have W := KBw.walks (prog := prog) (w := w) hh s.heap.objs.size b tb
  refine loop_invN J W ?_ ?_ ?_ ?_ ⟨_, Heap.get?_push_size _ rfl, rfl, rfl⟩ (F.push _) (fun p hp => ⟨Heap.get?_push_of_some _ (N p hp).1, (N p hp).2⟩) hJ ?_ ?_
  · intro hm
    exact absurd F.ns.lt ((List.mem_singleton.mp hm) ▸ Nat.lt_irrefl _)
  · intro b' hb
    rw [List.mem_singleton.mp hb]
    exact next_is_new F
  · intro p hp hI
    exact absurd (Heap.lt_size (N p hp).1) ((List.mem_singleton.mp hI) ▸ Nat.lt_irrefl _)
  · intro p hp hI
    exact absurd (Heap.lt_size (N p hp).1) ((List.mem_singleton.mp hI) ▸ Nat.lt_irrefl _)
  · rintro i v m₁ nx h tk own _ ⟨c, u, hc, rfl⟩ hm ho hj F' N'
    exact turn i _ u m₁ nx h tk own (KBw.ints_get hc) ho hm hj F' N'
  · intro m₁ nx h tk hj F' N'
    rw [← KBw.ints_length] at hj
    exact done m₁ nx h tk hj F' N'
/-- a loop over a range of n turns by steps c -/
theorem iterR {r : Addr} {a₀ b₀ c₀ : Int} {t₀ u₀ v₀ : Tok} {n : Nat} (J : Nat → (Str → Option Value) → List (Addr × Obj) → Prop)
    (hr : IsRange s.heap r a₀ b₀ c₀ t₀ u₀ v₀) (hsmall : Builtin.Range.small a₀ b₀ c₀ = true) (hn : Builtin.Range.rangeSize a₀ b₀ c₀ = (n : Int)) (hh : A.handled = none) (F : Fr h₀ env.locals s.heap m₀) (N : News h₀ env.locals s.heap news) (hJ : J 0 m₀ news)
    (turn : ∀ i t m₁ nx h tk own, i < n → OwnOff own (news.map (·.1)) → nx.map (·.1) = news.map (·.1) → J i m₁ nx → Fr h₀ env.locals h (fun y => if y = x then some (.int (a₀ + (i : Int) * c₀) t) else m₁ y) → News h₀ env.locals h (nx ++ own) →
      wpAny (model prog w) A (execs body env) (InvPostN h₀ env.locals (J (i + 1)) own (news.map (·.1)) { s with heap := h, toks := tk } Q) E { s with heap := h, toks := tk })
    (done : ∀ m₁ nx h tk, J n m₁ nx → Fr h₀ env.locals h m₁ → News h₀ env.locals h nx → Q .next { s with heap := h, toks := tk }) :
    wpAny (model prog w) A (pyIter (.ref r)) (fun it s₂ => LoopAtV prog w A h₀ env x body Q E it s₂) E s := by
  refine wpAny_pyIter_range hr hsmall ?_
  have W := Walks.range (prog := prog) (w := w) hh s.heap.objs.size a₀ c₀ n
  refine loop_invN J W ?_ ?_ ?_ ?_ (by rw [hn]; simpa [IsRangeIter] using Heap.get?_push_size _ rfl) (F.push _) (fun p hp => ⟨Heap.get?_push_of_some _ (N p hp).1, (N p hp).2⟩) hJ ?_ ?_
  · intro hm
    exact absurd F.ns.lt ((List.mem_singleton.mp hm) ▸ Nat.lt_irrefl _)
  · intro b' hb
    rw [List.mem_singleton.mp hb]
    exact next_is_new F
  · intro p hp hI
    exact absurd (Heap.lt_size (N p hp).1) ((List.mem_singleton.mp hI) ▸ Nat.lt_irrefl _)
  · intro p hp hI
    exact absurd (Heap.lt_size (N p hp).1) ((List.mem_singleton.mp hI) ▸ Nat.lt_irrefl _)
  · rintro i v m₁ nx h tk own hi ⟨t, rfl⟩ hm ho hj F' N'
    exact turn i t m₁ nx h tk own hi ho hm hj F' N'
  · exact done
end
/-- the frame's map told by the names that a loop stores -/
theorem map1 {m m₀ : Str → Option Value} {y : Str} {v : Value} (xs : List Str) (h : m y = some v) (hm : ∀ z, z ∉ xs → z ≠ y → m z = m₀ z) :
    ∃ u : Str → Option Value, m = fun z => if z = y then some v else if z ∈ xs then u z else m₀ z := by
  refine ⟨m, funext fun z => ?_⟩
  by_cases h1 : z = y
  · subst h1; simp [h]
  · by_cases h2 : z ∈ xs
    · simp [h1, h2]
    · simp [h1, h2, hm z h2 h1]
theorem map0 {m m₀ : Str → Option Value} (xs : List Str) (hm : ∀ z, z ∉ xs → m z = m₀ z) :
    ∃ u : Str → Option Value, m = fun z => if z ∈ xs then u z else m₀ z := by
  refine ⟨m, funext fun z => ?_⟩
  by_cases h2 : z ∈ xs
  · simp [h2]
  · simp [h2, hm z h2]
section
variable {prog : Program} {w : World} {A : Around} {E : Value → Shared → Prop} {s : Shared} {env : Env} {h₀ : Heap} {x : Str} {body : List Stmt} {Q : Flow → Shared → Prop}
  {m₀ : Str → Option Value} {news : List (Addr × Obj)}
/-- one name's value between the turns -/
noncomputable def J1 {σ : Type} (m₀ : Str → Option Value) (news : List (Addr × Obj)) (y : Str) (xs : List Str) (val : σ → Tok → Value) (P : Nat → σ → Prop) (i : Nat) (m : Str → Option Value) (nx : List (Addr × Obj)) : Prop :=
  nx = news ∧ ∃ a t, P i a ∧ m y = some (val a t) ∧ ∀ z, z ∉ xs → z ≠ y → m z = m₀ z
theorem iterB1 {σ : Type} {b : Array UInt8} {tb : Tok} {ks : List Int} {a₀ : σ} {t₀ : Tok} (y : Str) (xs : List Str) (val : σ → Tok → Value) (P : Nat → σ → Prop)
    (hk : KBw.bInts b = ks) (hh : A.handled = none) (F : Fr h₀ env.locals s.heap m₀) (N : News h₀ env.locals s.heap news) (hy : m₀ y = some (val a₀ t₀)) (h0 : P 0 a₀)
    (turn : ∀ i k t a ta (u : Str → Option Value) h tk own, ks[i]? = some k → 0 ≤ k → k < 256 → OwnOff own (news.map (·.1)) → P i a → Fr h₀ env.locals h (fun z => if z = x then some (.int k t) else if z = y then some (val a ta) else if z ∈ xs then u z else m₀ z) → News h₀ env.locals h (news ++ own) →
      wpAny (model prog w) A (execs body env) (InvPostN h₀ env.locals (J1 m₀ news y xs val P (i + 1)) own (news.map (·.1)) { s with heap := h, toks := tk } Q) E { s with heap := h, toks := tk })
    (done : ∀ a t (u : Str → Option Value) h tk, P ks.length a → Fr h₀ env.locals h (fun z => if z = y then some (val a t) else if z ∈ xs then u z else m₀ z) → News h₀ env.locals h news → Q .next { s with heap := h, toks := tk }) :
    wpAny (model prog w) A (pyIter (.bytes b tb)) (fun it s₂ => LoopAtV prog w A h₀ env x body Q E it s₂) E s := by
  refine iterB (J1 m₀ news y xs val P) hk hh F N ⟨rfl, a₀, t₀, h0, hy, fun _ _ _ => rfl⟩ ?_ ?_
  · rintro i k t m₁ nx h tk own hi ho _ ⟨rfl, a, ta, ha, hm, hz⟩ F₁ N₁
    obtain ⟨u, rfl⟩ := map1 xs hm hz
    have hin := KBw.ints_in (b := b) (k := k) (by rw [hk]; exact List.mem_of_getElem? hi)
    exact turn i k t a ta u h tk own hi hin.1 hin.2 ho ha F₁ N₁
  · rintro m₁ nx h tk ⟨rfl, a, ta, ha, hm, hz⟩ F₁ N₁
    obtain ⟨u, rfl⟩ := map1 xs hm hz
    exact done a ta u h tk ha F₁ N₁
end
theorem inv_end1 {σ : Type} {h₀ h' : Heap} {L : Addr} {m' m₀ : Str → Option Value} {own news' news : List (Addr × Obj)} {s₁ : Shared} {tk : Nat} {y : Str} {xs : List Str} {val : σ → Tok → Value} {P : Nat → σ → Prop} {i : Nat} {a : σ} {t : Tok}
    (hP : P i a) (F : Fr h₀ L h' m') (N : News h₀ L h' news') (hn : ∀ p ∈ news, p ∈ news') (ho : ∀ p ∈ own, p ∈ news') (hy : m' y = some (val a t)) (hz : ∀ z, z ∉ xs → z ≠ y → m' z = m₀ z) :
    InvEndN h₀ L (J1 m₀ news y xs val P i) own (news.map (·.1)) s₁ { s₁ with heap := h', toks := tk } :=
  ⟨h', tk, m', news', news, rfl, F, N, hn, ho, rfl, rfl, a, t, hP, hy, hz⟩

/-- a number's four octets -/
noncomputable def be4 (n : Int) : List Int := [n / 16777216 % 256, n / 65536 % 256, n / 256 % 256, n % 256]
theorem big_list (n : Int) : List.map (fun k' => Builtin.bitAnd (n.fdiv (2 ^ (8 * (4 - 1 - k')).toNat)) 255) (rangeKs 0 (4 - 0 : Int).toNat) = be4 n := by
  have e : rangeKs 0 (4 - 0 : Int).toNat = [0, 1, 2, 3] := by decide
  rw [e]
  simp only [List.map_cons, List.map_nil, PyProof.Rows.bitAnd_m8]
  unfold be4
  have e0 : (2 : Int) ^ (8 * (4 - 1 - (0 : Int))).toNat = 16777216 := by decide
  have e1 : (2 : Int) ^ (8 * (4 - 1 - (1 : Int))).toNat = 65536 := by decide
  have e2 : (2 : Int) ^ (8 * (4 - 1 - (2 : Int))).toNat = 256 := by decide
  have e3 : (2 : Int) ^ (8 * (4 - 1 - (3 : Int))).toNat = 1 := by decide
  rw [e0, e1, e2, e3]
  simp only [Int.fdiv_eq_ediv_of_nonneg _ (by decide : (0 : Int) ≤ 16777216), Int.fdiv_eq_ediv_of_nonneg _ (by decide : (0 : Int) ≤ 65536), Int.fdiv_eq_ediv_of_nonneg _ (by decide : (0 : Int) ≤ 256), Int.fdiv_eq_ediv_of_nonneg _ (by decide : (0 : Int) ≤ 1), Int.ediv_one]
theorem be4_in (n : Int) : KBa.In (be4 n) := by
  intro k hk
  simp only [be4, List.mem_cons, List.not_mem_nil, or_false] at hk
  omega

theorem c_big (hh : A.handled = none) (B : Below A base outer s.heap) (X : (hd.heap_39 w.params).In s.heap) (T : Top hd.view_39 LO mean mg mb s.heap) (hdp : A.depth + 20 < recursionLimit) (hun : A.units + 60 < cLine)
    {n : Int} {t tm : Tok} (h0 : 0 ≤ n) (h1 : n < 4294967296)
    (hQ : ∀ b t' h' tk', KBw.bInts b = be4 n → Keeps s.heap h' → Q (.bytes b t') { s with heap := h', toks := tk' }) :
    wpAny (model PySem.Challenge.rw_pb0094_01.row.prog w) A (call (.ref 64) [.int n t, .int 4 tm]) Q E s := by
  ((((
  (with_reducible rename Frag.In _ _ => mX0); revert mX0; k_fill; intro mX1
  (with_reducible rename Below _ _ _ _ => mB0); (with_reducible rename (Around.handled _ = none) => mh0); (with_reducible rename (Around.depth _ + _ < recursionLimit) => md0); (with_reducible rename (Around.units _ + _ < cLine) => mu0)
  first | refine m_open mh0 mB0 md0 mu0 ?_ | refine s_open mh0 mB0 md0 mu0 ?_
  clear mh0 mB0 md0 mu0
  intro zdp zun zgd mB1 md1 mu1)); (first
  | (refine' enterP ?s1x1x2 ?s2x1x2 ?s3x1x2 ?s4x1x2 ?s5x1x2 ?s6x1x2 ?s7x1x2 ?s8x1x2 ?s9x1x2 ?_ ?s11x1x2 ?s12x1x2 ?s13x1x2 ?s14x1x2; (((case s1x1x2 => k_asm); (case s2x1x2 => k_asm); (case s3x1x2 => k_asm); (case s4x1x2 => first | assumption | exact Led.refl _); (case s5x1x2 => k_is); (case s6x1x2 => k_is); (case s7x1x2 => walk_at "m_rd"); (case s8x1x2 => first | exact BindsTo.of_eq rfl | exact binds_K (by k_in) rfl (by k_is) rfl rfl rfl); (case s9x1x2 => first | exact rfl | exact locs rfl); (try (case s10x1x2 => first | exact rfl | decide +kernel)); (case s11x1x2 => exact rfl); (case s12x1x2 => exact rfl); (case s13x1x2 => exact rfl))); (case s14x1x2 => decide); k_whole; intro zL zh zF zN; (try dsimp only); (try k_fold))
  | (refine' enterC ?s1x1x2 ?s2x1x2 ?s3x1x2 ?s4x1x2 ?s5x1x2 ?s6x1x2 ?s7x1x2 ?s8x1x2 ?s9x1x2 ?s10x1x2 ?_ ?s11x1x2 ?s12x1x2 ?s13x1x2; (((case s1x1x2 => k_asm); (case s2x1x2 => k_asm); (case s3x1x2 => k_asm); (case s4x1x2 => first | assumption | exact Led.refl _); (case s5x1x2 => k_is); (case s6x1x2 => k_is); (case s7x1x2 => walk_at "m_rd"); (case s8x1x2 => first | exact BindsTo.of_eq rfl | exact binds_K (by k_in) rfl (by k_is) rfl rfl rfl); (case s9x1x2 => first | exact rfl | exact locs rfl); (try (case s10x1x2 => first | exact rfl | decide +kernel)); (case s11x1x2 => exact rfl); (case s12x1x2 => exact rfl); (case s13x1x2 => exact rfl))); k_whole; intro zL zh ztk zcells zF zN zY zl; (try k_lt zl); k_cells zY; (try simp only [List.cons_append, List.nil_append] at zN); (try dsimp only); (try k_fold)))))
  k_steps
  rename IntsAre _ _ => hi
  rw [big_list] at hi
  refine KBa.make_K (by k_asm) (by k_asm) rfl (News.isList (by k_asm) (by k_mem)) hi (be4_in n) (Nat.le_of_ble_eq_true rfl) fun h' t' k F N hin => ?_
  exact hQ _ _ _ _ (KBa.ints_make hin) F.keep

theorem c_be32 (hh : A.handled = none) (B : Below A base outer s.heap) (X : (hd.heap_39 w.params).In s.heap) (T : Top hd.view_39 LO mean mg mb s.heap) (hdp : A.depth + 40 < recursionLimit) (hun : A.units + 120 < cLine)
    {n : Int} {t : Tok} (h0 : 0 ≤ n) (h1 : n < 4294967296)
    (hQ : ∀ b t' h' tk', KBw.bInts b = be4 n → Keeps s.heap h' → Q (.bytes b t') { s with heap := h', toks := tk' }) :
    wpAny (model PySem.Challenge.rw_pb0094_01.row.prog w) A (call (.ref 71) [.int n t]) Q E s := by
  have mark0 := @Mark.on "call"
  ((((
  (with_reducible rename Frag.In _ _ => mX0); revert mX0; k_fill; intro mX1
  (with_reducible rename Below _ _ _ _ => mB0); (with_reducible rename (Around.handled _ = none) => mh0); (with_reducible rename (Around.depth _ + _ < recursionLimit) => md0); (with_reducible rename (Around.units _ + _ < cLine) => mu0)
  first | refine m_open mh0 mB0 md0 mu0 ?_ | refine s_open mh0 mB0 md0 mu0 ?_
  clear mh0 mB0 md0 mu0
  intro zdp zun zgd mB1 md1 mu1)); (first
  | (refine' enterP ?s1x3x4 ?s2x3x4 ?s3x3x4 ?s4x3x4 ?s5x3x4 ?s6x3x4 ?s7x3x4 ?s8x3x4 ?s9x3x4 ?_ ?s11x3x4 ?s12x3x4 ?s13x3x4 ?s14x3x4; (((case s1x3x4 => k_asm); (case s2x3x4 => k_asm); (case s3x3x4 => k_asm); (case s4x3x4 => first | assumption | exact Led.refl _); (case s5x3x4 => k_is); (case s6x3x4 => k_is); (case s7x3x4 => walk_at "m_rd"); (case s8x3x4 => first | exact BindsTo.of_eq rfl | exact binds_K (by k_in) rfl (by k_is) rfl rfl rfl); (case s9x3x4 => first | exact rfl | exact locs rfl); (try (case s10x3x4 => first | exact rfl | decide +kernel)); (case s11x3x4 => exact rfl); (case s12x3x4 => exact rfl); (case s13x3x4 => exact rfl))); (case s14x3x4 => decide); k_whole; intro zL zh zF zN; (try dsimp only); (try k_fold))
  | (refine' enterC ?s1x3x4 ?s2x3x4 ?s3x3x4 ?s4x3x4 ?s5x3x4 ?s6x3x4 ?s7x3x4 ?s8x3x4 ?s9x3x4 ?s10x3x4 ?_ ?s11x3x4 ?s12x3x4 ?s13x3x4; (((case s1x3x4 => k_asm); (case s2x3x4 => k_asm); (case s3x3x4 => k_asm); (case s4x3x4 => first | assumption | exact Led.refl _); (case s5x3x4 => k_is); (case s6x3x4 => k_is); (case s7x3x4 => walk_at "m_rd"); (case s8x3x4 => first | exact BindsTo.of_eq rfl | exact binds_K (by k_in) rfl (by k_is) rfl rfl rfl); (case s9x3x4 => first | exact rfl | exact locs rfl); (try (case s10x3x4 => first | exact rfl | decide +kernel)); (case s11x3x4 => exact rfl); (case s12x3x4 => exact rfl); (case s13x3x4 => exact rfl))); k_whole; intro zL zh ztk zcells zF zN zY zl; (try k_lt zl); k_cells zY; (try simp only [List.cons_append, List.nil_append] at zN); (try dsimp only); (try k_fold)))))
  (repeat' (first | (k_unfold; (try dsimp only)) | walk1 | (k_unmd; k_unfold; (try dsimp only)) | (dsimp only; first | (k_unfold; (try dsimp only)) | walk1)))
  unfold Hold
  refine c_big w rfl (by walk_at "m_B") (by walk_at "m_X") (by walk_at "m_T") (by walk_at "m_rd") (by walk_at "m_ru") h0 h1 ?_
  intro b' t' h' tk' hb' hk'
  (((with_reducible rename Fr _ _ _ _ => mF); (with_reducible rename News _ _ _ _ => mN); (with_reducible rename Keeps _ _ => mK); (have zF := Fr.keptAll mF mK); (have zN := News.grown mN mK); clear mN mF mK; (try dsimp only); (try k_fold)))
  (repeat' (first | (k_unfold; (try dsimp only)) | walk1 | (k_unmd; k_unfold; (try dsimp only)) | (dsimp only; first | (k_unfold; (try dsimp only)) | walk1)))
  exact hQ _ _ _ _ (by assumption) (Fr.keep (by assumption))

/-- the number that some octets tell -/
noncomputable def num (ks : List Int) : Int := ks.foldl (fun n o => 256 * n + o) 0
theorem take_all {ks : List Int} {n : Nat} {i j : Int} (h : ks.length = n) (hj : j = (n : Int)) (hi : i = 0) : List.take (clipAt ks.length j - clipAt ks.length i) (List.drop (clipAt ks.length i) ks) = ks := by
  subst hi hj
  have e0 : clipAt ks.length 0 = 0 := by have := clipAt_nat ks.length 0; simpa using this
  rw [e0, clipAt_nat, List.drop_zero, h, Nat.min_self, Nat.sub_zero, ← h, List.take_length]
section
theorem c_atbig (hh : A.handled = none) (B : Below A base outer s.heap) (X : (hd.heap_39 w.params).In s.heap) (T : Top hd.view_39 LO mean mg mb s.heap) (hdp : A.depth + 20 < recursionLimit) (hun : A.units + 60 < cLine)
    {b : Array UInt8} {ks : List Int} {t t1 t2 : Tok} (hb : KBw.bInts b = ks) (hk : ks.length = 4)
    (hQ : ∀ t' h' tk', Keeps s.heap h' → Q (.int (num ks) t') { s with heap := h', toks := tk' }) :
    wpAny (model PySem.Challenge.rw_pb0094_01.row.prog w) A (call (.ref 78) [.bytes b t, .int 0 t1, .int 4 t2]) Q E s := by
  have mark0 := @Mark.on "for"
  ((((
  (with_reducible rename Frag.In _ _ => mX0); revert mX0; k_fill; intro mX1
  (with_reducible rename Below _ _ _ _ => mB0); (with_reducible rename (Around.handled _ = none) => mh0); (with_reducible rename (Around.depth _ + _ < recursionLimit) => md0); (with_reducible rename (Around.units _ + _ < cLine) => mu0)
  first | refine m_open mh0 mB0 md0 mu0 ?_ | refine s_open mh0 mB0 md0 mu0 ?_
  clear mh0 mB0 md0 mu0
  intro zdp zun zgd mB1 md1 mu1)); (first
  | (refine' enterP ?s1x5x6 ?s2x5x6 ?s3x5x6 ?s4x5x6 ?s5x5x6 ?s6x5x6 ?s7x5x6 ?s8x5x6 ?s9x5x6 ?_ ?s11x5x6 ?s12x5x6 ?s13x5x6 ?s14x5x6; (((case s1x5x6 => k_asm); (case s2x5x6 => k_asm); (case s3x5x6 => k_asm); (case s4x5x6 => first | assumption | exact Led.refl _); (case s5x5x6 => k_is); (case s6x5x6 => k_is); (case s7x5x6 => walk_at "m_rd"); (case s8x5x6 => first | exact BindsTo.of_eq rfl | exact binds_K (by k_in) rfl (by k_is) rfl rfl rfl); (case s9x5x6 => first | exact rfl | exact locs rfl); (try (case s10x5x6 => first | exact rfl | decide +kernel)); (case s11x5x6 => exact rfl); (case s12x5x6 => exact rfl); (case s13x5x6 => exact rfl))); (case s14x5x6 => decide); k_whole; intro zL zh zF zN; (try dsimp only); (try k_fold))
  | (refine' enterC ?s1x5x6 ?s2x5x6 ?s3x5x6 ?s4x5x6 ?s5x5x6 ?s6x5x6 ?s7x5x6 ?s8x5x6 ?s9x5x6 ?s10x5x6 ?_ ?s11x5x6 ?s12x5x6 ?s13x5x6; (((case s1x5x6 => k_asm); (case s2x5x6 => k_asm); (case s3x5x6 => k_asm); (case s4x5x6 => first | assumption | exact Led.refl _); (case s5x5x6 => k_is); (case s6x5x6 => k_is); (case s7x5x6 => walk_at "m_rd"); (case s8x5x6 => first | exact BindsTo.of_eq rfl | exact binds_K (by k_in) rfl (by k_is) rfl rfl rfl); (case s9x5x6 => first | exact rfl | exact locs rfl); (try (case s10x5x6 => first | exact rfl | decide +kernel)); (case s11x5x6 => exact rfl); (case s12x5x6 => exact rfl); (case s13x5x6 => exact rfl))); k_whole; intro zL zh ztk zcells zF zN zY zl; (try k_lt zl); k_cells zY; (try simp only [List.cons_append, List.nil_append] at zN); (try dsimp only); (try k_fold)))))
  (repeat' (first | (k_unfold; (try dsimp only)) | walk1 | (k_unmd; k_unfold; (try dsimp only)) | (dsimp only; first | (k_unfold; (try dsimp only)) | walk1)))
  rw [take_all hk (by rfl) rfl]
  exact hQ _ _ _ (Fr.keep (by assumption))
end
theorem c_at32 (hh : A.handled = none) (B : Below A base outer s.heap) (X : (hd.heap_39 w.params).In s.heap) (T : Top hd.view_39 LO mean mg mb s.heap) (hdp : A.depth + 40 < recursionLimit) (hun : A.units + 120 < cLine)
    {b : Array UInt8} {ks : List Int} {t t1 : Tok} (hb : KBw.bInts b = ks) (hk : ks.length = 4)
    (hQ : ∀ t' h' tk', Keeps s.heap h' → Q (.int (num ks) t') { s with heap := h', toks := tk' }) :
    wpAny (model PySem.Challenge.rw_pb0094_01.row.prog w) A (call (.ref 85) [.bytes b t, .int 0 t1]) Q E s := by
  have mark0 := @Mark.on "call"
  ((((
  (with_reducible rename Frag.In _ _ => mX0); revert mX0; k_fill; intro mX1
  (with_reducible rename Below _ _ _ _ => mB0); (with_reducible rename (Around.handled _ = none) => mh0); (with_reducible rename (Around.depth _ + _ < recursionLimit) => md0); (with_reducible rename (Around.units _ + _ < cLine) => mu0)
  first | refine m_open mh0 mB0 md0 mu0 ?_ | refine s_open mh0 mB0 md0 mu0 ?_
  clear mh0 mB0 md0 mu0
  intro zdp zun zgd mB1 md1 mu1)); (first
  | (refine' enterP ?s1x7x8 ?s2x7x8 ?s3x7x8 ?s4x7x8 ?s5x7x8 ?s6x7x8 ?s7x7x8 ?s8x7x8 ?s9x7x8 ?_ ?s11x7x8 ?s12x7x8 ?s13x7x8 ?s14x7x8; (((case s1x7x8 => k_asm); (case s2x7x8 => k_asm); (case s3x7x8 => k_asm); (case s4x7x8 => first | assumption | exact Led.refl _); (case s5x7x8 => k_is); (case s6x7x8 => k_is); (case s7x7x8 => walk_at "m_rd"); (case s8x7x8 => first | exact BindsTo.of_eq rfl | exact binds_K (by k_in) rfl (by k_is) rfl rfl rfl); (case s9x7x8 => first | exact rfl | exact locs rfl); (try (case s10x7x8 => first | exact rfl | decide +kernel)); (case s11x7x8 => exact rfl); (case s12x7x8 => exact rfl); (case s13x7x8 => exact rfl))); (case s14x7x8 => decide); k_whole; intro zL zh zF zN; (try dsimp only); (try k_fold))
  | (refine' enterC ?s1x7x8 ?s2x7x8 ?s3x7x8 ?s4x7x8 ?s5x7x8 ?s6x7x8 ?s7x7x8 ?s8x7x8 ?s9x7x8 ?s10x7x8 ?_ ?s11x7x8 ?s12x7x8 ?s13x7x8; (((case s1x7x8 => k_asm); (case s2x7x8 => k_asm); (case s3x7x8 => k_asm); (case s4x7x8 => first | assumption | exact Led.refl _); (case s5x7x8 => k_is); (case s6x7x8 => k_is); (case s7x7x8 => walk_at "m_rd"); (case s8x7x8 => first | exact BindsTo.of_eq rfl | exact binds_K (by k_in) rfl (by k_is) rfl rfl rfl); (case s9x7x8 => first | exact rfl | exact locs rfl); (try (case s10x7x8 => first | exact rfl | decide +kernel)); (case s11x7x8 => exact rfl); (case s12x7x8 => exact rfl); (case s13x7x8 => exact rfl))); k_whole; intro zL zh ztk zcells zF zN zY zl; (try k_lt zl); k_cells zY; (try simp only [List.cons_append, List.nil_append] at zN); (try dsimp only); (try k_fold)))))
  (repeat' (first | (k_unfold; (try dsimp only)) | walk1 | (k_unmd; k_unfold; (try dsimp only)) | (dsimp only; first | (k_unfold; (try dsimp only)) | walk1)))
  unfold Hold
  refine c_atbig w rfl (by walk_at "m_B") (by walk_at "m_X") (by walk_at "m_T") (by walk_at "m_rd") (by walk_at "m_ru") hb hk ?_
  intro t' h' tk' hk'
  (((with_reducible rename Fr _ _ _ _ => mF); (with_reducible rename News _ _ _ _ => mN); (with_reducible rename Keeps _ _ => mK); (have zF := Fr.keptAll mF mK); (have zN := News.grown mN mK); clear mN mF mK; (try dsimp only); (try k_fold)))
  (repeat' (first | (k_unfold; (try dsimp only)) | walk1 | (k_unmd; k_unfold; (try dsimp only)) | (dsimp only; first | (k_unfold; (try dsimp only)) | walk1)))
  exact hQ _ _ _ (Fr.keep (by assumption))
theorem num_in {ks : List Int} (hl : ks.length = 4) (h : ∀ k ∈ ks, 0 ≤ k ∧ k < 256) : 0 ≤ num ks ∧ num ks < 4294967296 := by
  match ks, hl with
  | [a, b, c, d], _ =>
    have h1 := h a (by simp); have h2 := h b (by simp); have h3 := h c (by simp); have h4 := h d (by simp)
    simp only [num, List.foldl]
    omega
theorem c_at32b (hh : A.handled = none) (B : Below A base outer s.heap) (X : (hd.heap_39 w.params).In s.heap) (T : Top hd.view_39 LO mean mg mb s.heap) (hdp : A.depth + 40 < recursionLimit) (hun : A.units + 120 < cLine)
    {b : Array UInt8} {ks : List Int} {t t1 : Tok} (hb : KBw.bInts b = ks) (hk : ks.length = 4)
    (hQ : ∀ t' h' tk', 0 ≤ num ks → num ks < 4294967296 → Keeps s.heap h' → Q (.int (num ks) t') { s with heap := h', toks := tk' }) :
    wpAny (model PySem.Challenge.rw_pb0094_01.row.prog w) A (call (.ref 85) [.bytes b t, .int 0 t1]) Q E s :=
  have hi := num_in hk (fun k hk' => KBw.ints_in (b := b) (by rw [hb]; exact hk'))
  c_at32 w hh B X T hdp hun hb hk fun t' h' tk' => hQ t' h' tk' hi.1 hi.2

/-- the number that signs from 0 on tell -/
noncomputable def numGo (B : Int) : Int → List Int → Option Int
  | n, [] => some n
  | n, k :: ks => if 0 ≤ k - 48 ∧ k - 48 < B then numGo B (B * n + (k - 48)) ks else none
noncomputable def numBy (B : Int) (ks : List Int) : Option Int := if ks = [] then none else numGo B 0 ks
theorem numGo_append (B : Int) : ∀ (ks ls : List Int) (n : Int), numGo B n (ks ++ ls) = (numGo B n ks).bind fun m => numGo B m ls
  | [], _, _ => rfl
  | k :: ks, ls, n => by
    simp only [List.cons_append, numGo]
    split
    · exact numGo_append B ks ls _
    · rfl
theorem numGo_step {B n : Int} {ks : List Int} {i : Nat} {k : Int} (h : numGo B 0 (ks.take i) = some n) (hk : ks[i]? = some k) (h0 : 0 ≤ k - 48) (h1 : k - 48 < B) : numGo B 0 (ks.take (i + 1)) = some (B * n + (k - 48)) := by
  rw [List.take_add_one, hk, numGo_append, h]
  show numGo B n [k] = _
  simp only [numGo, if_pos (And.intro h0 h1)]
theorem numGo_stop {B n : Int} {ks : List Int} {i : Nat} {k : Int} (h : numGo B 0 (ks.take i) = some n) (hk : ks[i]? = some k) (h0 : ¬ (0 ≤ k - 48 ∧ k - 48 < B)) : numBy B ks = none := by
  have hi : i < ks.length := by
    rcases Nat.lt_or_ge i ks.length with q | q
    · exact q
    · rw [List.getElem?_eq_none q] at hk; cases hk
  have e : ks = ks.take i ++ k :: ks.drop (i + 1) := by
    have hk' := List.getElem?_eq_getElem hi
    rw [hk] at hk'
    rw [Option.some.inj hk', List.getElem_cons_drop hi, List.take_append_drop]
  unfold numBy
  rw [if_neg (by intro q; rw [q] at hi; simp at hi), e, numGo_append, h]
  simp only [Option.bind_some, numGo, if_neg h0]
/-- what a told number is handed on as -/
noncomputable def optInt (r : Option Int) (t : Tok) : Value := match r with | some n => .int n t | none => .none
section
set_option pp.deepTerms false
set_option pp.maxSteps 1500
theorem c_by (hh : A.handled = none) (B : Below A base outer s.heap) (X : (hd.heap_39 w.params).In s.heap) (T : Top hd.view_39 LO mean mg mb s.heap) (hdp : A.depth + 20 < recursionLimit) (hun : A.units + 60 < cLine)
    {b : Array UInt8} {ks : List Int} {C : Int} {t t1 : Tok} (hb : KBw.bInts b = ks) (hk : ks.length ≤ 4096) (hC : 2 ≤ C) (hC' : C ≤ 10)
    (hQ : ∀ t' h', Keeps s.heap h' → ∀ tk', Q (optInt (numBy C ks) t') { s with heap := h', toks := tk' }) :
    wpAny (model PySem.Challenge.rw_pb0094_01.row.prog w) A (call (.ref 92) [.bytes b t, .int C t1]) Q E s := by
  have mark0 := @Mark.on "for"
  have mark1 := @Mark.on "bytes"
  ((((
  (with_reducible rename Frag.In _ _ => mX0); revert mX0; k_fill; intro mX1
  (with_reducible rename Below _ _ _ _ => mB0); (with_reducible rename (Around.handled _ = none) => mh0); (with_reducible rename (Around.depth _ + _ < recursionLimit) => md0); (with_reducible rename (Around.units _ + _ < cLine) => mu0)
  first | refine m_open mh0 mB0 md0 mu0 ?_ | refine s_open mh0 mB0 md0 mu0 ?_
  clear mh0 mB0 md0 mu0
  intro zdp zun zgd mB1 md1 mu1)); (first
  | (refine' enterP ?s1x9x10 ?s2x9x10 ?s3x9x10 ?s4x9x10 ?s5x9x10 ?s6x9x10 ?s7x9x10 ?s8x9x10 ?s9x9x10 ?_ ?s11x9x10 ?s12x9x10 ?s13x9x10 ?s14x9x10; (((case s1x9x10 => k_asm); (case s2x9x10 => k_asm); (case s3x9x10 => k_asm); (case s4x9x10 => first | assumption | exact Led.refl _); (case s5x9x10 => k_is); (case s6x9x10 => k_is); (case s7x9x10 => walk_at "m_rd"); (case s8x9x10 => first | exact BindsTo.of_eq rfl | exact binds_K (by k_in) rfl (by k_is) rfl rfl rfl); (case s9x9x10 => first | exact rfl | exact locs rfl); (try (case s10x9x10 => first | exact rfl | decide +kernel)); (case s11x9x10 => exact rfl); (case s12x9x10 => exact rfl); (case s13x9x10 => exact rfl))); (case s14x9x10 => decide); k_whole; intro zL zh zF zN; (try dsimp only); (try k_fold))
  | (refine' enterC ?s1x9x10 ?s2x9x10 ?s3x9x10 ?s4x9x10 ?s5x9x10 ?s6x9x10 ?s7x9x10 ?s8x9x10 ?s9x9x10 ?s10x9x10 ?_ ?s11x9x10 ?s12x9x10 ?s13x9x10; (((case s1x9x10 => k_asm); (case s2x9x10 => k_asm); (case s3x9x10 => k_asm); (case s4x9x10 => first | assumption | exact Led.refl _); (case s5x9x10 => k_is); (case s6x9x10 => k_is); (case s7x9x10 => walk_at "m_rd"); (case s8x9x10 => first | exact BindsTo.of_eq rfl | exact binds_K (by k_in) rfl (by k_is) rfl rfl rfl); (case s9x9x10 => first | exact rfl | exact locs rfl); (try (case s10x9x10 => first | exact rfl | decide +kernel)); (case s11x9x10 => exact rfl); (case s12x9x10 => exact rfl); (case s13x9x10 => exact rfl))); k_whole; intro zL zh ztk zcells zF zN zY zl; (try k_lt zl); k_cells zY; (try simp only [List.cons_append, List.nil_append] at zN); (try dsimp only); (try k_fold)))))
  (repeat' (first | (k_unfold; (try dsimp only)) | walk1 | (k_unmd; k_unfold; (try dsimp only)) | (dsimp only; first | (k_unfold; (try dsimp only)) | walk1)))
  · have e : numBy C ks = none := by
      unfold numBy
      rw [if_pos (List.length_eq_zero_iff.mp (by omega))]
    have q := hQ 0 _ (Fr.keep (by assumption))
    rw [e] at q
    exact q _
  · unfold Hold
    (rename Fr _ _ _ _ => F1); (rename News _ _ _ _ => N1)
    refine iterB1 (Str.ofString "number") [Str.ofString "octet", Str.ofString "digit"] (fun (a : Int) t => Value.int a t) (fun i a => numGo C 0 (ks.take i) = some a) hb rfl F1 N1 (by rfl) (by rfl) ?_ ?_
    · clear F1 N1
      intro i k t' a ta u h tk own hi h0 h1 ho hp F2 N2
      (repeat' (first | (k_unfold; (try dsimp only)) | walk1 | (k_unmd; k_unfold; (try dsimp only)) | (dsimp only; first | (k_unfold; (try dsimp only)) | walk1)))
      · exact inv_end1 (numGo_step hp hi (by assumption) (by assumption)) (by k_asm) (by k_asm) (by ((intro p hp; first | exact absurd hp List.not_mem_nil | (simp [hp]; done) | (simp only [List.mem_append, List.mem_cons, List.not_mem_nil, or_false, false_or] at *; simp_all)))) (by ((intro p hp; first | exact absurd hp List.not_mem_nil | (simp [hp]; done) | (simp only [List.mem_append, List.mem_cons, List.not_mem_nil, or_false, false_or] at *; simp_all)))) (by rfl) (by ((intros; (try simp only [List.mem_cons, List.not_mem_nil, or_false, not_or] at *); first | rfl | simp_all)))
      all_goals
        have e : numBy C ks = none := numGo_stop hp hi (by omega)
        have q := hQ 0 _ (Fr.keep (by assumption))
        rw [e] at q
        exact q _
    · clear F1 N1
      intro a t' u h tk hp F2 N2
      (repeat' (first | (k_unfold; (try dsimp only)) | walk1 | (k_unmd; k_unfold; (try dsimp only)) | (dsimp only; first | (k_unfold; (try dsimp only)) | walk1)))
      have e : numBy C ks = some a := by
        unfold numBy
        rw [if_neg (fun q => absurd (show (ks.length : Int) = 0 by rw [q]; rfl) (by assumption)), ← List.take_length (l := ks), hp]
      have q := hQ t' _ F2.keep tk
      rw [e] at q
      exact q
end

/-- the number that signs write in plain decimal; in octal -/
noncomputable def numOf (ks : List Int) : Option Int := if 1 < ks.length ∧ ks.getD 0 0 = 48 then none else numBy 10 ks
noncomputable def octOf (ks : List Int) : Option Int := numBy 8 ks
theorem c_of (hh : A.handled = none) (B : Below A base outer s.heap) (X : (hd.heap_39 w.params).In s.heap) (T : Top hd.view_39 LO mean mg mb s.heap) (hdp : A.depth + 40 < recursionLimit) (hun : A.units + 120 < cLine)
    {b : Array UInt8} {ks : List Int} {t : Tok} (hb : KBw.bInts b = ks) (hk : ks.length ≤ 4096)
    (hQ : ∀ t' h', Keeps s.heap h' → ∀ tk', Q (optInt (numOf ks) t') { s with heap := h', toks := tk' }) :
    wpAny (model PySem.Challenge.rw_pb0094_01.row.prog w) A (call (.ref 99) [.bytes b t]) Q E s := by
  have mark0 := @Mark.on "call"
  ((((
  (with_reducible rename Frag.In _ _ => mX0); revert mX0; k_fill; intro mX1
  (with_reducible rename Below _ _ _ _ => mB0); (with_reducible rename (Around.handled _ = none) => mh0); (with_reducible rename (Around.depth _ + _ < recursionLimit) => md0); (with_reducible rename (Around.units _ + _ < cLine) => mu0)
  first | refine m_open mh0 mB0 md0 mu0 ?_ | refine s_open mh0 mB0 md0 mu0 ?_
  clear mh0 mB0 md0 mu0
  intro zdp zun zgd mB1 md1 mu1)); (first
  | (refine' enterP ?s1x11x12 ?s2x11x12 ?s3x11x12 ?s4x11x12 ?s5x11x12 ?s6x11x12 ?s7x11x12 ?s8x11x12 ?s9x11x12 ?_ ?s11x11x12 ?s12x11x12 ?s13x11x12 ?s14x11x12; (((case s1x11x12 => k_asm); (case s2x11x12 => k_asm); (case s3x11x12 => k_asm); (case s4x11x12 => first | assumption | exact Led.refl _); (case s5x11x12 => k_is); (case s6x11x12 => k_is); (case s7x11x12 => walk_at "m_rd"); (case s8x11x12 => first | exact BindsTo.of_eq rfl | exact binds_K (by k_in) rfl (by k_is) rfl rfl rfl); (case s9x11x12 => first | exact rfl | exact locs rfl); (try (case s10x11x12 => first | exact rfl | decide +kernel)); (case s11x11x12 => exact rfl); (case s12x11x12 => exact rfl); (case s13x11x12 => exact rfl))); (case s14x11x12 => decide); k_whole; intro zL zh zF zN; (try dsimp only); (try k_fold))
  | (refine' enterC ?s1x11x12 ?s2x11x12 ?s3x11x12 ?s4x11x12 ?s5x11x12 ?s6x11x12 ?s7x11x12 ?s8x11x12 ?s9x11x12 ?s10x11x12 ?_ ?s11x11x12 ?s12x11x12 ?s13x11x12; (((case s1x11x12 => k_asm); (case s2x11x12 => k_asm); (case s3x11x12 => k_asm); (case s4x11x12 => first | assumption | exact Led.refl _); (case s5x11x12 => k_is); (case s6x11x12 => k_is); (case s7x11x12 => walk_at "m_rd"); (case s8x11x12 => first | exact BindsTo.of_eq rfl | exact binds_K (by k_in) rfl (by k_is) rfl rfl rfl); (case s9x11x12 => first | exact rfl | exact locs rfl); (try (case s10x11x12 => first | exact rfl | decide +kernel)); (case s11x11x12 => exact rfl); (case s12x11x12 => exact rfl); (case s13x11x12 => exact rfl))); k_whole; intro zL zh ztk zcells zF zN zY zl; (try k_lt zl); k_cells zY; (try simp only [List.cons_append, List.nil_append] at zN); (try dsimp only); (try k_fold)))))
  (repeat' (first | (k_unfold; (try dsimp only)) | walk1 | (k_unmd; k_unfold; (try dsimp only)) | (dsimp only; first | (k_unfold; (try dsimp only)) | walk1)))
  · have e : numOf ks = none := if_pos ⟨by omega, by assumption⟩
    have q := hQ 0 _ (Fr.keep (by assumption))
    rw [e] at q
    exact q _
  · have e : numOf ks = numBy 10 ks := if_neg (fun q => absurd q.2 (by assumption))
    rw [e] at hQ
    unfold Hold
    refine c_by w rfl (by walk_at "m_B") (by walk_at "m_X") (by walk_at "m_T") (by walk_at "m_rd") (by walk_at "m_ru") hb hk (by decide) (by decide) ?_
    intro t' h' hk' tk'
    (((with_reducible rename Fr _ _ _ _ => mF); (with_reducible rename News _ _ _ _ => mN); (with_reducible rename Keeps _ _ => mK); (have zF := Fr.keptAll mF mK); (have zN := News.grown mN mK); clear mN mF mK; (try dsimp only); (try k_fold)))
    (repeat' (first | (k_unfold; (try dsimp only)) | walk1 | (k_unmd; k_unfold; (try dsimp only)) | (dsimp only; first | (k_unfold; (try dsimp only)) | walk1)))
    exact hQ _ _ (Fr.keep (by assumption)) _
  · have e : numOf ks = numBy 10 ks := if_neg (fun q => by omega)
    rw [e] at hQ
    unfold Hold
    refine c_by w rfl (by walk_at "m_B") (by walk_at "m_X") (by walk_at "m_T") (by walk_at "m_rd") (by walk_at "m_ru") hb hk (by decide) (by decide) ?_
    intro t' h' hk' tk'
    (((with_reducible rename Fr _ _ _ _ => mF); (with_reducible rename News _ _ _ _ => mN); (with_reducible rename Keeps _ _ => mK); (have zF := Fr.keptAll mF mK); (have zN := News.grown mN mK); clear mN mF mK; (try dsimp only); (try k_fold)))
    (repeat' (first | (k_unfold; (try dsimp only)) | walk1 | (k_unmd; k_unfold; (try dsimp only)) | (dsimp only; first | (k_unfold; (try dsimp only)) | walk1)))
    exact hQ _ _ (Fr.keep (by assumption)) _
theorem c_oct (hh : A.handled = none) (B : Below A base outer s.heap) (X : (hd.heap_39 w.params).In s.heap) (T : Top hd.view_39 LO mean mg mb s.heap) (hdp : A.depth + 40 < recursionLimit) (hun : A.units + 120 < cLine)
    {b : Array UInt8} {ks : List Int} {t : Tok} (hb : KBw.bInts b = ks) (hk : ks.length ≤ 4096)
    (hQ : ∀ t' h', Keeps s.heap h' → ∀ tk', Q (optInt (octOf ks) t') { s with heap := h', toks := tk' }) :
    wpAny (model PySem.Challenge.rw_pb0094_01.row.prog w) A (call (.ref 106) [.bytes b t]) Q E s := by
  have mark0 := @Mark.on "call"
  ((((
  (with_reducible rename Frag.In _ _ => mX0); revert mX0; k_fill; intro mX1
  (with_reducible rename Below _ _ _ _ => mB0); (with_reducible rename (Around.handled _ = none) => mh0); (with_reducible rename (Around.depth _ + _ < recursionLimit) => md0); (with_reducible rename (Around.units _ + _ < cLine) => mu0)
  first | refine m_open mh0 mB0 md0 mu0 ?_ | refine s_open mh0 mB0 md0 mu0 ?_
  clear mh0 mB0 md0 mu0
  intro zdp zun zgd mB1 md1 mu1)); (first
  | (refine' enterP ?s1x13x14 ?s2x13x14 ?s3x13x14 ?s4x13x14 ?s5x13x14 ?s6x13x14 ?s7x13x14 ?s8x13x14 ?s9x13x14 ?_ ?s11x13x14 ?s12x13x14 ?s13x13x14 ?s14x13x14; (((case s1x13x14 => k_asm); (case s2x13x14 => k_asm); (case s3x13x14 => k_asm); (case s4x13x14 => first | assumption | exact Led.refl _); (case s5x13x14 => k_is); (case s6x13x14 => k_is); (case s7x13x14 => walk_at "m_rd"); (case s8x13x14 => first | exact BindsTo.of_eq rfl | exact binds_K (by k_in) rfl (by k_is) rfl rfl rfl); (case s9x13x14 => first | exact rfl | exact locs rfl); (try (case s10x13x14 => first | exact rfl | decide +kernel)); (case s11x13x14 => exact rfl); (case s12x13x14 => exact rfl); (case s13x13x14 => exact rfl))); (case s14x13x14 => decide); k_whole; intro zL zh zF zN; (try dsimp only); (try k_fold))
  | (refine' enterC ?s1x13x14 ?s2x13x14 ?s3x13x14 ?s4x13x14 ?s5x13x14 ?s6x13x14 ?s7x13x14 ?s8x13x14 ?s9x13x14 ?s10x13x14 ?_ ?s11x13x14 ?s12x13x14 ?s13x13x14; (((case s1x13x14 => k_asm); (case s2x13x14 => k_asm); (case s3x13x14 => k_asm); (case s4x13x14 => first | assumption | exact Led.refl _); (case s5x13x14 => k_is); (case s6x13x14 => k_is); (case s7x13x14 => walk_at "m_rd"); (case s8x13x14 => first | exact BindsTo.of_eq rfl | exact binds_K (by k_in) rfl (by k_is) rfl rfl rfl); (case s9x13x14 => first | exact rfl | exact locs rfl); (try (case s10x13x14 => first | exact rfl | decide +kernel)); (case s11x13x14 => exact rfl); (case s12x13x14 => exact rfl); (case s13x13x14 => exact rfl))); k_whole; intro zL zh ztk zcells zF zN zY zl; (try k_lt zl); k_cells zY; (try simp only [List.cons_append, List.nil_append] at zN); (try dsimp only); (try k_fold)))))
  (repeat' (first | (k_unfold; (try dsimp only)) | walk1 | (k_unmd; k_unfold; (try dsimp only)) | (dsimp only; first | (k_unfold; (try dsimp only)) | walk1)))
  unfold Hold
  refine c_by w rfl (by walk_at "m_B") (by walk_at "m_X") (by walk_at "m_T") (by walk_at "m_rd") (by walk_at "m_ru") hb hk (by decide) (by decide) ?_
  intro t' h' hk' tk'
  (((with_reducible rename Fr _ _ _ _ => mF); (with_reducible rename News _ _ _ _ => mN); (with_reducible rename Keeps _ _ => mK); (have zF := Fr.keptAll mF mK); (have zN := News.grown mN mK); clear mN mF mK; (try dsimp only); (try k_fold)))
  (repeat' (first | (k_unfold; (try dsimp only)) | walk1 | (k_unmd; k_unfold; (try dsimp only)) | (dsimp only; first | (k_unfold; (try dsimp only)) | walk1)))
  exact hQ _ _ (Fr.keep (by assumption)) _
theorem c_of2 (hh : A.handled = none) (B : Below A base outer s.heap) (X : (hd.heap_39 w.params).In s.heap) (T : Top hd.view_39 LO mean mg mb s.heap) (hdp : A.depth + 40 < recursionLimit) (hun : A.units + 120 < cLine)
    {b : Array UInt8} {ks : List Int} {t : Tok} (hb : KBw.bInts b = ks) (hk : ks.length ≤ 4096)
    (hN : ∀ h', numOf ks = none → Keeps s.heap h' → ∀ tk', Q .none { s with heap := h', toks := tk' })
    (hS : ∀ n t' h', numOf ks = some n → Keeps s.heap h' → ∀ tk', Q (.int n t') { s with heap := h', toks := tk' }) :
    wpAny (model PySem.Challenge.rw_pb0094_01.row.prog w) A (call (.ref 99) [.bytes b t]) Q E s := by
  refine c_of w hh B X T hdp hun hb hk fun t' h' k tk' => ?_
  cases e : numOf ks with
  | none => exact hN h' e k tk'
  | some n => exact hS n t' h' e k tk'
theorem c_oct2 (hh : A.handled = none) (B : Below A base outer s.heap) (X : (hd.heap_39 w.params).In s.heap) (T : Top hd.view_39 LO mean mg mb s.heap) (hdp : A.depth + 40 < recursionLimit) (hun : A.units + 120 < cLine)
    {b : Array UInt8} {ks : List Int} {t : Tok} (hb : KBw.bInts b = ks) (hk : ks.length ≤ 4096)
    (hN : ∀ h', octOf ks = none → Keeps s.heap h' → ∀ tk', Q .none { s with heap := h', toks := tk' })
    (hS : ∀ n t' h', octOf ks = some n → Keeps s.heap h' → ∀ tk', Q (.int n t') { s with heap := h', toks := tk' }) :
    wpAny (model PySem.Challenge.rw_pb0094_01.row.prog w) A (call (.ref 106) [.bytes b t]) Q E s := by
  refine c_oct w hh B X T hdp hun hb hk fun t' h' k tk' => ?_
  cases e : octOf ks with
  | none => exact hN h' e k tk'
  | some n => exact hS n t' h' e k tk'
local macro_rules | `(tactic| walk_at "call ref") => `(tactic| (k_here; (first
  | k_dflt (refine' c_be32 _ ?kh ?kB ?kX ?kT ?kd ?ku ?k1 ?k2 ?_; ((((walk_at "m_prem"; (case k1 => (first | kba_ints | assumption | omega | decide | (simp only [List.length_take, List.length_append, List.length_drop, List.length_replicate, List.length_map, List.length_cons, List.length_nil, KBc.clip_lit, clipAt_nat]; omega))))); (case k2 => (first | kba_ints | assumption | omega | decide | (simp only [List.length_take, List.length_append, List.length_drop, List.length_replicate, List.length_map, List.length_cons, List.length_nil, KBc.clip_lit, clipAt_nat]; omega))))); k_whole)
  | k_dflt (refine' c_at32b _ ?kh ?kB ?kX ?kT ?kd ?ku ?k1 ?k2 ?_; ((((walk_at "m_prem"; (case k1 => (first | kba_ints | assumption | omega | decide | (simp only [List.length_take, List.length_append, List.length_drop, List.length_replicate, List.length_map, List.length_cons, List.length_nil, KBc.clip_lit, clipAt_nat]; omega))))); (case k2 => (first | kba_ints | assumption | omega | decide | (simp only [List.length_take, List.length_append, List.length_drop, List.length_replicate, List.length_map, List.length_cons, List.length_nil, KBc.clip_lit, clipAt_nat]; omega))))); k_whole)
  | k_dflt (refine' c_of2 _ ?kh ?kB ?kX ?kT ?kd ?ku ?k1 ?k2 ?_ ?_; ((((walk_at "m_prem"; (case k1 => (first | kba_ints | assumption | omega | decide | (simp only [List.length_take, List.length_append, List.length_drop, List.length_replicate, List.length_map, List.length_cons, List.length_nil, KBc.clip_lit, clipAt_nat]; omega))))); (case k2 => (first | kba_ints | assumption | omega | decide | (simp only [List.length_take, List.length_append, List.length_drop, List.length_replicate, List.length_map, List.length_cons, List.length_nil, KBc.clip_lit, clipAt_nat]; omega))))))
  | k_dflt (refine' c_oct2 _ ?kh ?kB ?kX ?kT ?kd ?ku ?k1 ?k2 ?_ ?_; ((((walk_at "m_prem"; (case k1 => (first | kba_ints | assumption | omega | decide | (simp only [List.length_take, List.length_append, List.length_drop, List.length_replicate, List.length_map, List.length_cons, List.length_nil, KBc.clip_lit, clipAt_nat]; omega))))); (case k2 => (first | kba_ints | assumption | omega | decide | (simp only [List.length_take, List.length_append, List.length_drop, List.length_replicate, List.length_map, List.length_cons, List.length_nil, KBc.clip_lit, clipAt_nat]; omega))))))); all_goals (intros; (((with_reducible rename Fr _ _ _ _ => mF); (with_reducible rename News _ _ _ _ => mN); (with_reducible rename Keeps _ _ => mK); (have zF := Fr.keptAll mF mK); (have zN := News.grown mN mK); clear mN mF mK; (try dsimp only); (try k_fold))))))

open Builtin Builtin.ObjectAttr in
theorem refuse_exc (self : Value) : refuseLoop self "__setattr__" [.ref 57, .ref 32, .type "Exception", .type "BaseException", .type "object"] = pure () := by
  rw [refuseLoop_ref, refuseLoop_ref]
  kernel_rfl
/-- a made exception of the text's class C: nothing else has changed -/
structure NewX (h h' : Heap) (e C : Addr) : Prop where
  keeps : ∀ b o, h.get? b = some o → h'.get? b = some o
  new : h.get? e = none
  there : ∃ ob t, h'.get? e = some ob ∧ ob.cls = .ref C ∧ ob.data = .fields #[t, .none, .none, .none, .bool false, .none]
noncomputable abbrev excObj (C : Addr) (t : Value) (d : Option Addr) : Obj := { cls := .ref C, dict := d, data := .fields #[t, .none, .none, .none, .bool false, .none] }
section
variable {prog : Program} {R : Result → Shared → Prop} {K : Frag} {x C : Addr} {t v : Value} {name : Str} {tk : Tok}
open Builtin Builtin.ObjectAttr in
theorem osa_exc {cd : ClassData} (X : K.In s.heap) (hx : s.heap.get? x = some (excObj C t none)) (hc : clsIn K C = some cd) (hm : cd.mro = [.ref 57, .ref 32, .type "Exception", .type "BaseException", .type "object"]) (hdct : cd.hasDict = true) (ht : findIn K (.ref C) name = some none)
    (h : ∀ h' tk' d, (∀ b o, b ≠ x → s.heap.get? b = some o → h'.get? b = some o) → h'.get? x = some (excObj C t (some d)) → R (.ok (.ret .none)) { s with heap := h', toks := tk' }) :
    codeAny (model prog w) A (.call (.builtin "object.__setattr__") ⟨[.ref x, .str name tk, v], []⟩) R s := by
  have SF := PySem.F.store_object
  have ne : cd.mro.isEmpty = false := by rw [hm]; rfl
  have I : InstAt s.heap x (excObj C t none) C none := ⟨hx, rfl, rfl, trivial⟩
  have sub : Looks (model prog w) s.heap (isInstance (.ref x) (.type "object")) true := I.type.andThen (looks_mroIn X (by unfold mroIn; rw [hc, Option.bind_some, if_neg (by rw [ne]; decide), hm]; rfl))
  refine codeAny_call_builtin SF.slot.plain SF.entry (@check_slot (model prog w) _ _ s "object.__setattr__" "object" "__setattr__" (.ref x) [.str name tk, v] [] _ SF.kind SF.split sub (SF.args (.ref x) (.str name tk) v) ?_)
  have hmr : Looks (model prog w) s.heap (mroOf (.ref C)) cd.mro := (looks_clsIn X hc).andThen .now
  rw [osa_eq, refuse_eq]
  refine wpAny_bind (wpAny_bind (I.type.here (wpAny_bind (hmr.here ?_))))
  rw [hm, refuse_exc]
  refine wpAny_pure (wpAny_bind (I.type.here (wpAny_bind ((looks_findIn X ht).here (wpAny_bind (wpAny_pure ?_))))))
  refine wpAny_bind (wpAny_pure (wpAny_bind ?_))
  unfold ownDictForStores instanceDict
  refine wpAny_bind (wpAny_loadPart hx ?_)
  refine wpAny_bind ((looks_clsIn X hc).here ?_)
  rw [hdct]
  refine wpAny_bind (wpAny_alloc ?_)
  have hx1 := Heap.get?_push_of_some { cls := .type "dict", data := .dict #[] } hx
  refine wpAny_bind (wpAny_update hx1 ?_)
  have hne : x ≠ s.heap.objs.size := Nat.ne_of_lt (Heap.lt_size hx)
  have hx2 : ((s.heap.push { cls := .type "dict", data := .dict #[] }).update x (fun o => { o with dict := some s.heap.objs.size })).get? x = some (excObj C t (some s.heap.objs.size)) := Heap.get?_update_self (fun o => { o with dict := some s.heap.objs.size }) hx1 rfl
  have hd2 : ((s.heap.push { cls := .type "dict", data := .dict #[] }).update x (fun o => { o with dict := some s.heap.objs.size })).get? s.heap.objs.size = some { cls := .type "dict", data := .dict #[] } :=
    (Heap.get?_update_other _ _ hne).trans (Heap.get?_push_size _ rfl)
  refine wpAny_pure ?_
  refine wpAny_bind (wpAny_pure (wpAny_bind ?_))
  unfold nsSet
  refine wpAny_bind (wpAny_bind (wpAny_askSetting (wpAny_pure (wpAny_bind (wpAny_mkText (wpAny_bind (wpAny_loadPart hd2 ?_)))))))
  dsimp only
  rw [aRefKeyMayBeTheName_at]
  refine bm_if_false (by simp) ?_
  refine wpAny_updatePart hd2 ?_
  refine wpAny_bind (wpAny_lookBehind (Heap.get?_update_self _ hd2 (by rw [putName_dict name _ _ v [] 0]; rfl)) (by rw [putName_dict name _ _ v [] 0]; rfl) ?_)
  refine wpAny_pure (h _ _ s.heap.objs.size (fun b o hb e => ?_) ?_)
  · have hb1 : b ≠ s.heap.objs.size := Nat.ne_of_lt (Heap.lt_size e)
    rw [Heap.get?_update_other _ _ (Ne.symm hb1), Heap.get?_update_other _ _ (Ne.symm hb)]
    exact Heap.get?_push_of_some _ e
  · rw [Heap.get?_update_other _ _ (Ne.symm hne)]
    exact hx2
end
section
theorem c_init (hh : A.handled = none) (B : Below A base outer s.heap) (X : (hd.heap_39 w.params).In s.heap) (T : Top hd.view_39 LO mean mg mb s.heap) (hdp : A.depth + 20 < recursionLimit) (hun : A.units + 60 < cLine)
    {e : Addr} {t : Value} {x : Str} {tx : Tok} (he : s.heap.get? e = some (excObj 57 t none))
    (hQ : ∀ h' tk' d, (∀ b o, b ≠ e → s.heap.get? b = some o → h'.get? b = some o) → h'.get? e = some (excObj 57 t (some d)) → Q .none { s with heap := h', toks := tk' }) :
    wpAny (model PySem.Challenge.rw_pb0094_01.row.prog w) A (call (.ref 29) [.ref e, .str x tx]) Q E s := by
  have mark0 := @Mark.on "attr"
  ((((
  (with_reducible rename Frag.In _ _ => mX0); revert mX0; k_fill; intro mX1
  (with_reducible rename Below _ _ _ _ => mB0); (with_reducible rename (Around.handled _ = none) => mh0); (with_reducible rename (Around.depth _ + _ < recursionLimit) => md0); (with_reducible rename (Around.units _ + _ < cLine) => mu0)
  first | refine m_open mh0 mB0 md0 mu0 ?_ | refine s_open mh0 mB0 md0 mu0 ?_
  clear mh0 mB0 md0 mu0
  intro zdp zun zgd mB1 md1 mu1)); (first
  | (refine' enterP ?s1x15x16 ?s2x15x16 ?s3x15x16 ?s4x15x16 ?s5x15x16 ?s6x15x16 ?s7x15x16 ?s8x15x16 ?s9x15x16 ?_ ?s11x15x16 ?s12x15x16 ?s13x15x16 ?s14x15x16; (((case s1x15x16 => k_asm); (case s2x15x16 => k_asm); (case s3x15x16 => k_asm); (case s4x15x16 => first | assumption | exact Led.refl _); (case s5x15x16 => k_is); (case s6x15x16 => k_is); (case s7x15x16 => walk_at "m_rd"); (case s8x15x16 => first | exact BindsTo.of_eq rfl | exact binds_K (by k_in) rfl (by k_is) rfl rfl rfl); (case s9x15x16 => first | exact rfl | exact locs rfl); (try (case s10x15x16 => first | exact rfl | decide +kernel)); (case s11x15x16 => exact rfl); (case s12x15x16 => exact rfl); (case s13x15x16 => exact rfl))); (case s14x15x16 => decide); k_whole; intro zL zh zF zN; (try dsimp only); (try k_fold))
  | (refine' enterC ?s1x15x16 ?s2x15x16 ?s3x15x16 ?s4x15x16 ?s5x15x16 ?s6x15x16 ?s7x15x16 ?s8x15x16 ?s9x15x16 ?s10x15x16 ?_ ?s11x15x16 ?s12x15x16 ?s13x15x16; (((case s1x15x16 => k_asm); (case s2x15x16 => k_asm); (case s3x15x16 => k_asm); (case s4x15x16 => first | assumption | exact Led.refl _); (case s5x15x16 => k_is); (case s6x15x16 => k_is); (case s7x15x16 => walk_at "m_rd"); (case s8x15x16 => first | exact BindsTo.of_eq rfl | exact binds_K (by k_in) rfl (by k_is) rfl rfl rfl); (case s9x15x16 => first | exact rfl | exact locs rfl); (try (case s10x15x16 => first | exact rfl | decide +kernel)); (case s11x15x16 => exact rfl); (case s12x15x16 => exact rfl); (case s13x15x16 => exact rfl))); k_whole; intro zL zh ztk zcells zF zN zY zl; (try k_lt zl); k_cells zY; (try simp only [List.cons_append, List.nil_append] at zN); (try dsimp only); (try k_fold)))))
  (repeat' (first | (k_unfold; (try dsimp only)) | walk1 | (k_unmd; k_unfold; (try dsimp only)) | (dsimp only; first | (k_unfold; (try dsimp only)) | walk1)))
  unfold Hold
  (rename Fr _ _ _ _ => F1)
  have X1 : (hd.heap_39 w.params).In _ := Frag.In.keeps (by k_asm) F1.keep
  have he1 := F1.keep _ _ he
  refine set_plain (C := 57) (ox := excObj 57 t none) (od := none) X1 ⟨he1, rfl, rfl, trivial⟩ (by k_is) ?_
  refine osa_exc w (C := 57) (t := t) (K := hd.heap_39 w.params) X1 he1 (by k_is) rfl rfl (by k_is) fun h' tk' d hk h2 => ?_
  dsimp only
  refine wpAny_execs_nil ?_
  exact hQ h' tk' d (fun b o hb q => hk b o hb (F1.keep _ _ q)) h2
end
section
variable {M : Model} {prog : Program} {R : Result → Shared → Prop} {h : Heap} {g : Array GenState} {d : Drawn} {t : Nat} {os : OsState} {nm q : Str} {C N : Addr} {bs bm bmB : List Value} {hdct : Bool} {sn : List Str} {sub : List Value} {ab : Bool} {col : Option Bool} {dd : Option Addr} {k0 k1 k2 k3 k5 : Option Value} {B newId initId : String}
open Sem (wp)
theorem check_newX (F : ExcBaseFacts B newId initId bmB) (hcont : (Value.ref C :: bm).contains (.type B) = true) {rest : List Value} {Q : Unit → Shared → Prop} (hC : h.get? C = some (excClassObj nm q C N bs bm hdct sn sub ab col dd k0 k1 k2 k3 k5 newId))
    (hq : Q () ⟨h, g, d, t, os⟩) : wpAny M A (checkBuiltinCall newId ⟨.ref C :: rest, []⟩) Q E ⟨h, g, d, t, os⟩ := by
  have hstar := F.noStar
  simp only [checkBuiltinCall, F.newKind, F.newSplit, F.newRow]
  repeat (first | refine wpAny_loadPart_at hC ?_ | (refine wpAny_isSubtype_exc hC ?_; rw [hcont]) | refine wpAny_staticBase_exc hC ?_ | refine wpAny_madeBy_exc hC ?_ | simp only [bne_self_eq_false, Bool.false_eq_true, if_false] | wp_step)
  exact hq
theorem exc_newX (F : ExcBaseFacts B newId initId bmB) (hcB : (Value.ref C :: bm).contains (.type B) = true) (hcA : (Value.ref C :: bm).contains (.type "AttributeError") = false) (hcN : (Value.ref C :: bm).contains (.type "NameError") = false)
    {rest : List Value} (hC : h.get? C = some (excClassObj nm q C N bs bm hdct sn sub ab col dd k0 k1 k2 k3 k5 newId))
    (hq : R (.ok (.ret (.ref (h.objs.size + 1)))) ⟨(h.push { cls := .type "tuple", data := .seq rest.toArray }).push
      { cls := .ref C, data := .fields #[.ref h.objs.size, .none, .none, .none, .bool false, .none] }, g, d, t, os⟩) (hrest : rest.length ≤ sizeLine := by size_fits) :
    codeAny (model prog w) A (.builtin newId ⟨.ref C :: rest, []⟩) R ⟨h, g, d, t, os⟩ := by
  have hends := F.ends
  refine codeAny_builtinAt F.entry ?_
  unfold Builtin.«BaseException.__new__»
  refine PySem.wpAt_bind ?_
  show PySem.wpAt _ _ _ (stack >>= _) _ _ _
  refine PySem.wpAt_bind (PySem.wpAt_stack fun p below => PySem.wpAt_of_wpAny ?_)
  wp_walk
  refine PySem.wpAt_of_wpAny ?_
  rw [F.owner]
  repeat (first | with_reducible refine wpAny_madeHere_exc F.canon hC ?_ | with_reducible refine wpAny_loadPart_at hC ?_ | (with_reducible refine wpAny_isSubtype_exc hC ?_; first | rw [hcB] | rw [hcA] | rw [hcN]) | wp_step)
  show R _ _
  rw [Heap.size_push]
  exact hq
end

section
theorem c_exc (hh : A.handled = none) (B : Below A base outer s.heap) (X : (hd.heap_39 w.params).In s.heap) (T : Top hd.view_39 LO mean mg mb s.heap) (hdp : A.depth + 40 < recursionLimit) (hun : A.units + 120 < cLine)
    {x : Str} {tx : Tok}
    (hQ : ∀ h' tk' e, NewX s.heap h' e 57 → Q (.ref e) { s with heap := h', toks := tk' }) :
    wpAny (model PySem.Challenge.rw_pb0094_01.row.prog w) A (call (.ref 57) [.str x tx]) Q E s := by
  revert X; k_fill; intro X
  have F := PySem.F.excBase_Exception
  have f1 := tc_lookup
  have f2 := tc_bind (.ref 57)
  obtain ⟨h, g, d, t, os⟩ := s
  dsimp only at *
  have hC := X 57 _ (by k_is)
  have hcB : (Value.ref 57 :: [Value.ref 32, .type "Exception", .type "BaseException", .type "object"]).contains (.type "Exception") = true := by decide +kernel
  have hcA : (Value.ref 57 :: [Value.ref 32, .type "Exception", .type "BaseException", .type "object"]).contains (.type "AttributeError") = false := by decide +kernel
  have hcN : (Value.ref 57 :: [Value.ref 32, .type "Exception", .type "BaseException", .type "object"]).contains (.type "NameError") = false := by decide +kernel
  have hcC : (Value.ref 57 :: [Value.ref 32, .type "Exception", .type "BaseException", .type "object"]).contains (.ref 57) = true := by decide +kernel
  have hT : (⟨h, g, d, t, os⟩ : Shared).TypeIs (.ref 57) "type" := ⟨_, hC, rfl⟩
  refine wpAny_call (codeAny_of_tree ?_)
  show wpAny _ _ (callAny (.ref 57) _) _ _ _
  repeat (any_goals (first | assumption | with_reducible refine wpAny_loadPart_at hC ?_ | wp_step))
  refine ⟨rfl, ?_⟩
  refine codeAny_call_builtin_at (Code.quiet_builtin _ (by decide +kernel)) entry_typeCall (wpAny_check_type_call_sub hC ?_)
  repeat (first | with_reducible refine wpAny_loadPart_at hC ?_ | with_reducible refine wpAny_madeBy_exc hC ?_ | wp_step)
  refine codeAny_call_builtin_code (Code.quiet_builtin _ F.quiet) (check_newX F hcB hC ?_)
  refine exc_newX w F hcB hcA hcN hC ?_ (Nat.le_of_ble_eq_true rfl)
  show wpAny _ _ _ _ _ _
  have hk1 : Keeps h ((h.push { cls := .type "tuple", data := .seq [Value.str x tx].toArray }).push { cls := .ref 57, data := .fields #[.ref h.objs.size, .none, .none, .none, .bool false, .none] }) := fun b o e => Heap.get?_push_of_some _ (Heap.get?_push_of_some _ e)
  have hC₁ := hk1 _ _ hC
  have hget : ((h.push { cls := .type "tuple", data := .seq [Value.str x tx].toArray }).push
      { cls := .ref 57, data := .fields #[.ref h.objs.size, .none, .none, .none, .bool false, .none] }).get? (h.objs.size + 1) = some
      { cls := .ref 57, data := .fields #[.ref h.objs.size, .none, .none, .none, .bool false, .none] } := by heap_get
  have X1 : (hd.heap_39 w.params).In _ := X.keeps hk1
  refine wpAny_bind ?_
  unfold isInstance
  repeat (first | with_reducible refine wpAny_loadPart_at hget ?_ | wp_step)
  refine wpAny_isSubtype_exc hC₁ ?_
  rw [hcC]
  refine bm_if_false (by rfl) ?_
  have I1 : InstAt _ (h.objs.size + 1) (excObj 57 (.ref h.objs.size) none) 57 none := ⟨hget, rfl, rfl, trivial⟩
  refine wpAny_bind (wpAny_holding (special_fn (s := ⟨_, _, _, _, _⟩) X1 I1 (by k_is) (by k_is) ?_))
  have B1 : Below (A.under (.builtin "type.__call__" ⟨.ref 57 :: [.str x tx], []⟩)) base outer _ := ⟨B.stack, fun b o e => hk1 _ _ (B.stays b o e), B.frames.of_keeps fun b o e _ => ⟨o, hk1 b o e, rfl⟩⟩
  refine c_init (s := ⟨_, _, _, _, _⟩) w (A := A.under (.builtin "type.__call__" ⟨.ref 57 :: [.str x tx], []⟩)) hh B1 X1 (T.keeps hk1) (by rw [depth_under_make]; omega) (by rw [units_under_make]; omega) hget fun h' tk' d' hk' he' => ?_
  refine bm_if_false (by decide) ?_
  refine wpAny_pure ?_
  refine hQ h' tk' (h.objs.size + 1) ⟨fun b o q => hk' b o (Nat.ne_of_lt (Nat.lt_succ_of_lt (Heap.lt_size q))) (hk1 b o q), Heap.get?_none_of_le (Nat.le_succ _), _, _, he', rfl, rfl⟩
end

/-- the places of the frames' names -/
noncomputable abbrev frs (l : List Env) : List Addr := l.filterMap (·.frame)
theorem hide_not {h : Heap} {as : List Addr} {b : Addr} {o : Obj} (e : (hideAll h as).get? b = some o) : b ∉ as := fun q => by
  rw [hideAll_none as q] at e; cases e
theorem hide_under {A : Around} {base h : Heap} {outer : List Env} (B : Below A base outer h) : base.StaysIn (hideAll h (frs outer)) := fun b o q => hideAll_get _ (B.stays b o q) fun hm => by
  rw [(B.frames.mem hm).1] at q; cases q
/-- an exception BadPatch that has left the frames inside -/
noncomputable def Flew (outer : List Env) (h : Heap) (e : Addr) (h' : Heap) : Prop := (∃ a0, Heap.FlyingW (hideAll h (frs outer)) outer e (.ref 57) a0 h') ∧ h.UpToSlots h'
section
variable {M : Model} {s' : Shared} {g h : Heap} {L e : Addr} {m : Str → Option Value} {env : Env} {Qu : Unit → Shared → Prop}
theorem hide_frame (F : Fr g L h m) (hf : env.frame = some L) : (hideAll g (frs outer)).StaysIn (hideAll h (frs (env :: outer))) := fun b o q => by
  have q1 := of_hideAll _ q
  refine hideAll_get _ (F.keep _ _ q1) fun hm => ?_
  rw [show frs (env :: outer) = L :: frs outer from by simp [frs, hf]] at hm
  rcases List.mem_cons.mp hm with r | r
  · exact absurd (Heap.lt_size q1) (by rw [r]; exact Nat.not_lt.mpr F.above)
  · exact hide_not q r
theorem leave_newX (K : Below A base outer g) (F : Fr g L h m) (hx : NewX h s'.heap e 57) (hf : env.frame = some L) (hk : env.scope.kind = .function)
    (hQ : ∀ h', Flew outer g e h' → Qu () { s' with heap := h' }) : wpAny M (A.deeper env) (leaving env (.ref e)) Qu E s' := by
  have K' := pushX K F hf hk
  have hin : ∀ ev ∈ (env :: outer), ∀ b, ev.frame = some b → b ∈ frs (env :: outer) := fun ev he b hb => List.mem_filterMap.mpr ⟨ev, he, hb⟩
  obtain ⟨ob, tp, he, hcls, hd⟩ := hx.there
  have hen : (hideAll h (frs (env :: outer))).get? e = none := by
    cases q : (hideAll h (frs (env :: outer))).get? e with
    | none => rfl
    | some o => have := of_hideAll _ q; rw [hx.new] at this; cases this
  refine wpAny_leaving_firstW (a0 := tp) K'.stack ((funFrames_hide K'.frames hin).of_keeps fun b o hb _ => ⟨o, hx.keeps b o hb, rfl⟩) hf he (fun b o hb => hx.keeps b o (of_hideAll _ hb)) hen hd rfl rfl fun h' hL => ?_
  obtain ⟨k1, ⟨_, _, k2⟩, k3, k4⟩ := hL
  exact hQ h' ⟨⟨tp, flyingW_base (hide_frame F hf) ⟨k1, hen, k2, by rw [← hcls]; exact k3⟩⟩, ((Heap.UpToSlots.of_keeps F.keep).trans (Heap.UpToSlots.of_keeps hx.keeps)).trans k4⟩
theorem leave_onX (K : Below A base outer g) (F : Fr g L h m) (R : Flew (env :: outer) h e s'.heap) (hf : env.frame = some L)
    (hQ : ∀ h', Flew outer g e h' → Qu () { s' with heap := h' }) : wpAny M (A.deeper env) (leaving env (.ref e)) Qu E s' := by
  obtain ⟨⟨a0, hfl⟩, hup⟩ := R
  refine wpAny_leaves_onW (Around.frames_deeper K.stack) hf hfl fun h' x1 x2 => hQ h' ⟨⟨a0, flyingW_base (hide_frame F hf) x1⟩, ((Heap.UpToSlots.of_keeps F.keep).trans hup).trans x2⟩
end
/-- all is kept, but for what the frames outside have laid in their slots -/
noncomputable def KeepsU (outer : List Env) (h h' : Heap) : Prop := ∃ g, KtsTurn (frs outer) h g ∧ Keeps g h'
theorem KeepsU.of_keeps {outer : List Env} {h h' : Heap} (k : Keeps h h') : KeepsU outer h h' := ⟨h, .refl, k⟩
/-- what a raised call hands on -/
noncomputable def RaiseQ (E : Value → Shared → Prop) (v : Value) (s₁ : Shared) : Prop := ∃ e h0, v = .ref e ∧ (hd.heap_39 w.params).In h0 ∧ NewX h0 s₁.heap e 57 ∧ E (.ref e) s₁
theorem exec_raise {env : Env} {x : Str} {np cpos pos : Pos} {args : List Expr} {Qf : Flow → Shared → Prop} (hh : A.handled = none)
    (h : wpAny (model PySem.Challenge.rw_pb0094_01.row.prog w) A (eval (.Call (.Name x np) args [] cpos) env) (RaiseQ w E) E s) : wpAny (model PySem.Challenge.rw_pb0094_01.row.prog w) A (exec (.Raise (some (.Call (.Name x np) args [] cpos)) none pos) env) Qf E s := by
  rw [arm_exec_Raise]
  refine wpAny_bind (wpAny_standAt ?_)
  unfold raiseStmt
  refine wpAny_bind (wpAny_bind (wpAny_mono h (fun v s₁ h₁ => wpAny_bind (wpAny_standAt (wpAny_pure ?_))) fun _ _ x => x))
  obtain ⟨e, h0, rfl, X, hx, hE⟩ := h₁
  obtain ⟨ob, t, he, hc, hd⟩ := hx.there
  obtain ⟨oc, odct, odat, osl⟩ := ob
  dsimp only at hc hd
  subst hc hd
  revert X; k_fill; intro X
  have hC := hx.keeps _ _ (X 57 _ (by k_is))
  have hcB : (Value.ref 57 :: [Value.ref 32, .type "Exception", .type "BaseException", .type "object"]).contains (.type "BaseException") = true := by decide +kernel
  obtain ⟨hp, g, d, tk, os⟩ := s₁
  dsimp only at *
  repeat (first | with_reducible refine wpAny_loadPart_at he ?_ | wp_step)
  refine wpAny_isSubtype_exc hC ?_
  rw [hcB]
  repeat (first | with_reducible refine wpAny_loadPart_at he ?_ | wp_step)
  exact wpAny_raiseNew_none hh hE
local macro_rules
  | `(tactic| walk_at "exec Raise some none") => `(tactic| (k_here; (with_reducible show wpAny _ _ (exec (Stmt.Raise (some (Expr.Call (Expr.Name _ _) _ [] _)) none _) _) _ _ _); k_dflt (refine exec_raise _ (by rfl) ?_)))
  | `(tactic| walk_at "call ref") => `(tactic| (k_here; k_dflt (refine' c_exc _ ?kh ?kB ?kX ?kT ?kd ?ku ?_; walk_at "m_prem"; k_whole); intro h' tk' e' hx'))
  | `(tactic| walk_at "RaiseQ") => `(tactic| (refine ⟨_, _, rfl, ?kX, (by assumption), ?_⟩; (case kX => walk_at "m_X")))
  | `(tactic| walk_at "leaving ref") => `(tactic| (k_here; k_dflt (first
  | (refine leave_newX (by k_asm) (by k_asm) (by assumption) rfl rfl ?_; intro h' hfl')
  | (refine leave_onX (by k_asm) (by k_asm) (by assumption) rfl ?_; intro h' hfl'))))

theorem c_told (hh : A.handled = none) (B : Below A base outer s.heap) (X : (hd.heap_39 w.params).In s.heap) (T : Top hd.view_39 LO mean mg mb s.heap) (hdp : A.depth + 60 < recursionLimit) (hun : A.units + 180 < cLine)
    {b : Array UInt8} {ks : List Int} {t tx : Tok} {x : Str} (hb : KBw.bInts b = ks) (hk : ks.length ≤ 4096)
    (hQ : ∀ n t' h', numOf ks = some n → Keeps s.heap h' → ∀ tk', Q (.int n t') { s with heap := h', toks := tk' })
    (hE : ∀ e h', numOf ks = none → Flew outer s.heap e h' → ∀ tk', E (.ref e) { s with heap := h', toks := tk' }) :
    wpAny (model PySem.Challenge.rw_pb0094_01.row.prog w) A (call (.ref 141) [.bytes b t, .str x tx]) Q E s := by
  ((((
  (with_reducible rename Frag.In _ _ => mX0); revert mX0; k_fill; intro mX1
  (with_reducible rename Below _ _ _ _ => mB0); (with_reducible rename (Around.handled _ = none) => mh0); (with_reducible rename (Around.depth _ + _ < recursionLimit) => md0); (with_reducible rename (Around.units _ + _ < cLine) => mu0)
  first | refine m_open mh0 mB0 md0 mu0 ?_ | refine s_open mh0 mB0 md0 mu0 ?_
  clear mh0 mB0 md0 mu0
  intro zdp zun zgd mB1 md1 mu1)); (first
  | (refine' enterP ?s1x17x18 ?s2x17x18 ?s3x17x18 ?s4x17x18 ?s5x17x18 ?s6x17x18 ?s7x17x18 ?s8x17x18 ?s9x17x18 ?_ ?s11x17x18 ?s12x17x18 ?s13x17x18 ?s14x17x18; (((case s1x17x18 => k_asm); (case s2x17x18 => k_asm); (case s3x17x18 => k_asm); (case s4x17x18 => first | assumption | exact Led.refl _); (case s5x17x18 => k_is); (case s6x17x18 => k_is); (case s7x17x18 => walk_at "m_rd"); (case s8x17x18 => first | exact BindsTo.of_eq rfl | exact binds_K (by k_in) rfl (by k_is) rfl rfl rfl); (case s9x17x18 => first | exact rfl | exact locs rfl); (try (case s10x17x18 => first | exact rfl | decide +kernel)); (case s11x17x18 => exact rfl); (case s12x17x18 => exact rfl); (case s13x17x18 => exact rfl))); (case s14x17x18 => decide); k_whole; intro zL zh zF zN; (try dsimp only); (try k_fold))
  | (refine' enterC ?s1x17x18 ?s2x17x18 ?s3x17x18 ?s4x17x18 ?s5x17x18 ?s6x17x18 ?s7x17x18 ?s8x17x18 ?s9x17x18 ?s10x17x18 ?_ ?s11x17x18 ?s12x17x18 ?s13x17x18; (((case s1x17x18 => k_asm); (case s2x17x18 => k_asm); (case s3x17x18 => k_asm); (case s4x17x18 => first | assumption | exact Led.refl _); (case s5x17x18 => k_is); (case s6x17x18 => k_is); (case s7x17x18 => walk_at "m_rd"); (case s8x17x18 => first | exact BindsTo.of_eq rfl | exact binds_K (by k_in) rfl (by k_is) rfl rfl rfl); (case s9x17x18 => first | exact rfl | exact locs rfl); (try (case s10x17x18 => first | exact rfl | decide +kernel)); (case s11x17x18 => exact rfl); (case s12x17x18 => exact rfl); (case s13x17x18 => exact rfl))); k_whole; intro zL zh ztk zcells zF zN zY zl; (try k_lt zl); k_cells zY; (try simp only [List.cons_append, List.nil_append] at zN); (try dsimp only); (try k_fold)))))
  (repeat' (first | (k_unfold; (try dsimp only)) | walk1 | (k_unmd; k_unfold; (try dsimp only)) | (dsimp only; first | (k_unfold; (try dsimp only)) | walk1)))
  · exact hE _ _ (by assumption) (by assumption) _
  · exact hQ _ _ _ (by assumption) (Fr.keep (by assumption)) _
/-- the mode that octets write -/
noncomputable def modeOf (ks : List Int) : Option Int := if ks.length = 6 then octOf ks else none
theorem c_tmode (hh : A.handled = none) (B : Below A base outer s.heap) (X : (hd.heap_39 w.params).In s.heap) (T : Top hd.view_39 LO mean mg mb s.heap) (hdp : A.depth + 60 < recursionLimit) (hun : A.units + 180 < cLine)
    {b : Array UInt8} {ks : List Int} {t : Tok} (hb : KBw.bInts b = ks) (hk : ks.length ≤ 4096)
    (hQ : ∀ n t' h', modeOf ks = some n → Keeps s.heap h' → ∀ tk', Q (.int n t') { s with heap := h', toks := tk' })
    (hE : ∀ e h', modeOf ks = none → Flew outer s.heap e h' → ∀ tk', E (.ref e) { s with heap := h', toks := tk' }) :
    wpAny (model PySem.Challenge.rw_pb0094_01.row.prog w) A (call (.ref 148) [.bytes b t]) Q E s := by
  ((((
  (with_reducible rename Frag.In _ _ => mX0); revert mX0; k_fill; intro mX1
  (with_reducible rename Below _ _ _ _ => mB0); (with_reducible rename (Around.handled _ = none) => mh0); (with_reducible rename (Around.depth _ + _ < recursionLimit) => md0); (with_reducible rename (Around.units _ + _ < cLine) => mu0)
  first | refine m_open mh0 mB0 md0 mu0 ?_ | refine s_open mh0 mB0 md0 mu0 ?_
  clear mh0 mB0 md0 mu0
  intro zdp zun zgd mB1 md1 mu1)); (first
  | (refine' enterP ?s1x19x20 ?s2x19x20 ?s3x19x20 ?s4x19x20 ?s5x19x20 ?s6x19x20 ?s7x19x20 ?s8x19x20 ?s9x19x20 ?_ ?s11x19x20 ?s12x19x20 ?s13x19x20 ?s14x19x20; (((case s1x19x20 => k_asm); (case s2x19x20 => k_asm); (case s3x19x20 => k_asm); (case s4x19x20 => first | assumption | exact Led.refl _); (case s5x19x20 => k_is); (case s6x19x20 => k_is); (case s7x19x20 => walk_at "m_rd"); (case s8x19x20 => first | exact BindsTo.of_eq rfl | exact binds_K (by k_in) rfl (by k_is) rfl rfl rfl); (case s9x19x20 => first | exact rfl | exact locs rfl); (try (case s10x19x20 => first | exact rfl | decide +kernel)); (case s11x19x20 => exact rfl); (case s12x19x20 => exact rfl); (case s13x19x20 => exact rfl))); (case s14x19x20 => decide); k_whole; intro zL zh zF zN; (try dsimp only); (try k_fold))
  | (refine' enterC ?s1x19x20 ?s2x19x20 ?s3x19x20 ?s4x19x20 ?s5x19x20 ?s6x19x20 ?s7x19x20 ?s8x19x20 ?s9x19x20 ?s10x19x20 ?_ ?s11x19x20 ?s12x19x20 ?s13x19x20; (((case s1x19x20 => k_asm); (case s2x19x20 => k_asm); (case s3x19x20 => k_asm); (case s4x19x20 => first | assumption | exact Led.refl _); (case s5x19x20 => k_is); (case s6x19x20 => k_is); (case s7x19x20 => walk_at "m_rd"); (case s8x19x20 => first | exact BindsTo.of_eq rfl | exact binds_K (by k_in) rfl (by k_is) rfl rfl rfl); (case s9x19x20 => first | exact rfl | exact locs rfl); (try (case s10x19x20 => first | exact rfl | decide +kernel)); (case s11x19x20 => exact rfl); (case s12x19x20 => exact rfl); (case s13x19x20 => exact rfl))); k_whole; intro zL zh ztk zcells zF zN zY zl; (try k_lt zl); k_cells zY; (try simp only [List.cons_append, List.nil_append] at zN); (try dsimp only); (try k_fold)))))
  (repeat' (first | (k_unfold; (try dsimp only)) | walk1 | (k_unmd; k_unfold; (try dsimp only)) | (dsimp only; first | (k_unfold; (try dsimp only)) | walk1)))
  · exact hE _ _ (by unfold modeOf; split <;> first | assumption | rfl) (by assumption) _
  · exact hE _ _ (by unfold modeOf; rw [if_neg (by omega)]) (by assumption) _
  · exact hQ _ _ _ (by unfold modeOf; rw [if_pos (by omega)]; assumption) (Fr.keep (by assumption)) _

theorem slot_find : Slot "bytes" "find" "bytes.find" :=
  .of (owner := "bytes") (n := "find") (by rw [typeLookup_type, builtinLookup_eq_fast]; kernel_rfl) (by decide +kernel) (by decide +kernel) (by decide +kernel)
    (by first | exact .inl (by decide +kernel) | exact .inr (by decide +kernel)) (by rw [isSubtype_type]; kernel_rfl)
theorem type_find : typeOf (.builtin "bytes.find") = pure (.type "method_descriptor") := by show builtinType _ = _; rw [builtinType_eq_fast]; kernel_rfl
theorem entry_find : entryFor table "bytes.find" = some Builtin.«bytes.find» := entryFor_of_tree (by kernel_rfl)
theorem args_find (a b : Value) : argsOk "bytes.find" ⟨[a, b], []⟩ := by unfold argsOk; kernel_rfl
theorem slot_index : Slot "bytes" "index" "bytes.index" :=
  .of (owner := "bytes") (n := "index") (by rw [typeLookup_type, builtinLookup_eq_fast]; kernel_rfl) (by decide +kernel) (by decide +kernel) (by decide +kernel)
    (by first | exact .inl (by decide +kernel) | exact .inr (by decide +kernel)) (by rw [isSubtype_type]; kernel_rfl)
theorem type_index : typeOf (.builtin "bytes.index") = pure (.type "method_descriptor") := by show builtinType _ = _; rw [builtinType_eq_fast]; kernel_rfl
theorem entry_index : entryFor table "bytes.index" = some Builtin.«bytes.index» := entryFor_of_tree (by kernel_rfl)
theorem args_index (a b : Value) : argsOk "bytes.index" ⟨[a, b], []⟩ := by unfold argsOk; kernel_rfl
theorem slot_split : Slot "bytes" "split" "bytes.split" :=
  .of (owner := "bytes") (n := "split") (by rw [typeLookup_type, builtinLookup_eq_fast]; kernel_rfl) (by decide +kernel) (by decide +kernel) (by decide +kernel)
    (by first | exact .inl (by decide +kernel) | exact .inr (by decide +kernel)) (by rw [isSubtype_type]; kernel_rfl)
theorem type_split : typeOf (.builtin "bytes.split") = pure (.type "method_descriptor") := by show builtinType _ = _; rw [builtinType_eq_fast]; kernel_rfl
theorem entry_split : entryFor table "bytes.split" = some Builtin.«bytes.split» := entryFor_of_tree (by kernel_rfl)
theorem args_split (a b : Value) : argsOk "bytes.split" ⟨[a, b], []⟩ := by unfold argsOk; kernel_rfl
theorem noBuffer_int : typeLookup (.type "int") "__buffer__" = pure none := by rw [typeLookup_type, builtinLookup_eq_fast]; kernel_rfl
/-- the first place of an octet, or -1 -/
noncomputable def placeI (ks : List Int) (k : Int) : Int := match ks.findIdx? (· == k) with | some i => (i : Int) | none => -1
theorem range_find {α : Type} [BEq α] (x : α) : ∀ (l : List α), (List.range l.length).find? (fun i => l[i]? == some x) = l.findIdx? (· == x)
  | [] => rfl
  | y :: l => by
    rw [List.length_cons, List.range_succ_eq_map, List.find?_cons, List.findIdx?_cons]
    simp only [List.getElem?_cons_zero, List.find?_map, Function.comp_def, List.getElem?_cons_succ]
    have e : (some y == some x) = (y == x) := rfl
    rw [e]
    cases y == x
    · simp only [Bool.false_eq_true, if_false]
      rw [range_find x l]
    · simp
theorem find_one (b : Array UInt8) (x : UInt8) : Builtin.Bytes.find? b #[x] 0 b.size = b.toList.findIdx? (· == x) := by
  rw [← range_find]
  unfold Builtin.Bytes.find?
  simp only [Nat.zero_add, List.size_toArray, List.length_cons, List.length_nil, Nat.add_sub_cancel, Nat.add_zero, List.map_id', Array.length_toList]
  congr 1
  funext i
  rw [Bool.eq_iff_iff, beq_iff_eq, beq_iff_eq, ← Array.toList_inj, Array.toList_extract, List.extract_eq_take_drop]
  simp only [Nat.add_sub_cancel_left, List.take_one, List.head?_drop]
  cases b.toList[i]? <;> simp
theorem ints_findIdx (b : Array UInt8) {k : Int} (h0 : 0 ≤ k) (h1 : k < 256) : b.toList.findIdx? (· == k.toNat.toUInt8) = (KBw.bInts b).findIdx? (· == k) := by
  unfold KBw.bInts
  rw [List.findIdx?_map]
  congr 1
  funext c
  show (c == k.toNat.toUInt8) = (((c.toNat : Nat) : Int) == k)
  rw [Bool.eq_iff_iff, beq_iff_eq, beq_iff_eq]
  have hb := byte_back h0 h1
  constructor
  · rintro rfl; exact hb
  · intro e
    rw [← hb] at e
    exact UInt8.toNat_inj.mp (by exact_mod_cast e)
section
open Builtin Builtin.Bytes
variable {b c : Array UInt8} {t u : Tok} {x : UInt8} {k : Int}
theorem window_all (n : Nat) : window n none none = (0, (n : Int)) := by
  unfold window
  simp only [Option.getD_none, Int.lt_irrefl, if_false]
  rw [if_neg (by omega)]
  simp
theorem search_one (b : Array UInt8) (x : UInt8) : ((if ((b.size : Int) - 0 < ((#[x] : Array UInt8).size : Int)) then none else some ((0 : Int).toNat, (b.size : Int).toNat) : Option (Nat × Nat)).bind fun p => if false = true then rfind? b #[x] p.1 p.2 else find? b #[x] p.1 p.2) = b.toList.findIdx? (· == x) := by
  by_cases h : b.size = 0
  · have e : b = #[] := Array.eq_empty_of_size_eq_zero h
    subst e
    rfl
  · rw [if_neg (by simp only [List.size_toArray, List.length_cons, List.length_nil]; omega), Option.bind_some, if_neg (by decide)]
    exact find_one b x
theorem gives_find : Gives («bytes.find» ⟨[.bytes b t, .bytes #[x] u], []⟩) (.int (match b.toList.findIdx? (· == x) with | some i => (i : Int) | none => -1)) := by
  refine .of_wp fun M A E s Q hq => ?_
  unfold «bytes.find» searchM searchArgs
  refine wpAny_bind (wpAny_bind (wpAny_of_eq (a := (Value.bytes b t, [Value.bytes #[x] u])) (by kernel_rfl) ?_))
  refine wpAny_bind (wpAny_of_eq (a := (none : Option Int)) rfl ?_)
  refine wpAny_bind (wpAny_of_eq (a := (none : Option Int)) rfl ?_)
  refine wpAny_bind (wpAny_of_eq KBy.buffer_eq ?_)
  refine wpAny_bind (wpAny_pure (wpAny_bind (wpAny_of_eq (a := b) rfl ?_)))
  rw [window_all]
  refine wpAny_pure ?_
  dsimp only
  have e := search_one b x
  rw [e]
  cases h : b.toList.findIdx? (· == x) with
  | some i => rw [h] at hq; exact wpAny_bind (wpAny_mkInt (wpAny_pure ⟨_, rfl, hq⟩))
  | none => rw [h] at hq; exact wpAny_bind (wpAny_rule (wpAny_bind (wpAny_mkInt (wpAny_pure ⟨_, rfl, hq⟩))))
theorem gives_index {i : Nat} (h0 : 0 ≤ k) (h1 : k < 256) (hi : b.toList.findIdx? (· == k.toNat.toUInt8) = some i) : Gives («bytes.index» ⟨[.bytes b t, .int k u], []⟩) (.int (i : Int)) := by
  refine .of_wp fun M A E s Q hq => ?_
  unfold «bytes.index» searchM searchArgs
  refine wpAny_bind (wpAny_bind (wpAny_of_eq (a := (Value.bytes b t, [Value.int k u])) (by kernel_rfl) ?_))
  refine wpAny_bind (wpAny_of_eq (a := (none : Option Int)) rfl ?_)
  refine wpAny_bind (wpAny_of_eq (a := (none : Option Int)) rfl ?_)
  refine wpAny_bind ?_
  unfold buffer?
  refine wpAny_bind (wpAny_specialOf (typeIs_int s k u) noBuffer_int ?_)
  refine wpAny_bind (wpAny_specialOf (typeIs_int s k u) noBuffer_int (wpAny_pure ?_))
  refine wpAny_bind (wpAny_specialOf (typeIs_int s k u) F.slot_int_index.lookup ?_)
  refine bm_if_false rfl ?_
  refine wpAny_bind (wpAny_of_eq (a := k) rfl ?_)
  refine bm_if_false (by simp only [Bool.or_eq_false_iff, decide_eq_false_iff_not]; omega) ?_
  refine wpAny_bind (wpAny_pure (wpAny_bind (wpAny_of_eq (a := b) rfl ?_)))
  rw [window_all]
  refine wpAny_pure ?_
  dsimp only
  have e := search_one b k.toNat.toUInt8
  rw [e, hi]
  exact wpAny_bind (wpAny_mkInt (wpAny_pure ⟨_, rfl, hq⟩))
theorem gives_contains (h0 : 0 ≤ k) (h1 : k < 256) : Gives («bytes.__contains__» ⟨[.bytes b t, .int k u], []⟩) (.val (.bool (b.contains k.toNat.toUInt8))) := by
  refine .of_wp fun M A E s Q hq => ?_
  unfold «bytes.__contains__» containsIn
  refine wpAny_bind (wpAny_of_eq (a := (Value.bytes b t, [Value.int k u])) (by kernel_rfl) ?_)
  refine wpAny_bind ?_
  refine wpAny_bind (wpAny_of_eq (a := .ok k) rfl ?_)
  refine wpAny_bind (wpAny_of_eq KBy.buffer_eq ?_)
  refine bm_if_false (by simp only [Bool.or_eq_false_iff, decide_eq_false_iff_not]; omega) ?_
  exact wpAny_pure (wpAny_pure ⟨_, rfl, hq⟩)
end
/-- a text cut at each k -/
noncomputable def splitBy (k : Int) : List Int → List (List Int)
  | [] => [[]]
  | y :: l => if y = k then [] :: splitBy k l else match splitBy k l with | [] => [[y]] | p :: ps => (y :: p) :: ps
theorem splitBy_ne (k : Int) : ∀ l, splitBy k l ≠ []
  | [] => by simp [splitBy]
  | y :: l => by
    simp only [splitBy]
    split
    · simp
    · split <;> simp
section
variable {α : Type}
noncomputable def cuts (l : List α) : Nat → List Nat → List (List α)
  | last, [] => [l.drop last]
  | last, p :: ps => (l.drop last).take (p - last) :: cuts l (p + 1) ps
theorem cuts_cons (y : α) (l : List α) : ∀ (ps : List Nat) (last : Nat), cuts (y :: l) (last + 1) (ps.map (· + 1)) = cuts l last ps
  | [], last => by simp [cuts]
  | p :: ps, last => by
    simp only [List.map_cons, cuts, List.drop_succ_cons]
    rw [cuts_cons y l ps (p + 1), show p + 1 - (last + 1) = p - last by omega]
noncomputable def idxs (f : α → Bool) (l : List α) : List Nat := (List.range l.length).filter fun i => match l[i]? with | some y => f y | none => false
theorem idxs_cons (f : α → Bool) (y : α) (l : List α) : idxs f (y :: l) = (if f y then [0] else []) ++ (idxs f l).map (· + 1) := by
  unfold idxs
  rw [List.length_cons, List.range_succ_eq_map, List.filter_cons]
  simp only [List.getElem?_cons_zero, List.filter_map, Function.comp_def, List.getElem?_cons_succ]
  cases f y <;> rfl
end
theorem cuts_split (k : Int) : ∀ l : List Int, cuts l 0 (idxs (· == k) l) = splitBy k l
  | [] => rfl
  | y :: l => by
    rw [idxs_cons]
    have ih := cuts_split k l
    by_cases h : y = k
    · rw [if_pos (by simpa using h)]
      simp only [List.singleton_append, cuts, splitBy, if_pos h]
      rw [cuts_cons y l _ 0, ih]
      rfl
    · rw [if_neg (by simpa using h)]
      simp only [List.nil_append, splitBy, if_neg h]
      rw [← ih]
      cases idxs (· == k) l with
      | nil => simp [cuts]
      | cons p ps =>
        simp only [List.map_cons, cuts, List.drop_zero, Nat.sub_zero, List.take_succ_cons]
        rw [cuts_cons y l ps (p + 1)]
section
open Builtin Builtin.Bytes
variable {b c : Array UInt8} {t u : Tok} {x : UInt8} {k : Int}
theorem between_cuts (b : Array UInt8) (ps : List Nat) : (between b 1 ps).map (·.toList) = cuts b.toList 0 ps := by
  have key : ∀ (ps : List Nat) (acc : Array (Array UInt8)) (last : Nat),
      (let r := ps.foldl (fun (p : Array (Array UInt8) × Nat) q => (p.1.push (b.extract p.2 q), q + 1)) (acc, last); (r.1.push (b.extract r.2 b.size)).toList.map (·.toList)) = acc.toList.map (·.toList) ++ cuts b.toList last ps := by
    intro ps
    induction ps with
    | nil =>
      intro acc last
      simp only [List.foldl_nil, cuts, Array.toList_push, List.map_append, List.map_cons, List.map_nil, Array.toList_extract, List.extract_eq_take_drop]
      rw [List.take_of_length_le (by simp)]
    | cons p ps ih =>
      intro acc last
      simp only [List.foldl_cons]
      rw [ih]
      simp only [cuts, Array.toList_push, List.map_append, List.map_cons, List.map_nil, Array.toList_extract, List.extract_eq_take_drop, List.append_assoc, List.singleton_append]
  have := key ps #[] 0
  simpa [between] using this
theorem occ_idxs (b : Array UInt8) (x : UInt8) : occurrences b #[x] 0 b.size = idxs (· == x) b.toList := by
  have hf : ∀ i, (b.extract i (i + (#[x] : Array UInt8).size) == #[x]) = (match b.toList[i]? with | some y => y == x | none => false) := by
    intro i
    rw [Bool.eq_iff_iff, beq_iff_eq, ← Array.toList_inj, Array.toList_extract, List.extract_eq_take_drop]
    simp only [List.size_toArray, List.length_cons, List.length_nil, Nat.zero_add, Nat.add_sub_cancel_left, List.take_one, List.head?_drop]
    cases b.toList[i]? <;> simp
  have key : ∀ (n : Nat), ((List.range n).foldl (fun (acc : List Nat × Nat) i => if i ≥ acc.2 && b.extract i (i + (#[x] : Array UInt8).size) == #[x] then (i :: acc.1, i + (#[x] : Array UInt8).size) else acc) ([], 0)).1
      = ((List.range n).filter fun i => match b.toList[i]? with | some y => y == x | none => false).reverse ∧
      ((List.range n).foldl (fun (acc : List Nat × Nat) i => if i ≥ acc.2 && b.extract i (i + (#[x] : Array UInt8).size) == #[x] then (i :: acc.1, i + (#[x] : Array UInt8).size) else acc) ([], 0)).2 ≤ n := by
    intro n
    induction n with
    | zero => simp
    | succ n ih =>
      rw [List.range_succ, List.foldl_append, List.filter_append, List.foldl_cons, List.foldl_nil]
      obtain ⟨i1, i2⟩ := ih
      rw [hf n, show (decide (n ≥ _)) = true from decide_eq_true i2, Bool.true_and]
      cases hb : (match b.toList[n]? with | some y => y == x | none => false) with
      | true =>
        rw [if_pos rfl, List.filter_cons_of_pos (p := fun i => match b.toList[i]? with | some y => y == x | none => false) hb, List.filter_nil, List.reverse_append, List.reverse_singleton, List.singleton_append]
        exact ⟨by rw [i1], Nat.le_refl _⟩
      | false =>
        rw [if_neg Bool.false_ne_true, List.filter_cons_of_neg (p := fun i => match b.toList[i]? with | some y => y == x | none => false) (ne_true_of_eq_false hb), List.filter_nil, List.append_nil]
        exact ⟨i1, Nat.le_succ_of_le i2⟩
  unfold occurrences idxs
  have e : (List.range (b.size + 1 - (0 + (#[x] : Array UInt8).size))).map (· + 0) = List.range b.size := by simp
  rw [e, Array.length_toList]
  dsimp only
  rw [(key b.size).1, List.reverse_reverse]
  refine congrArg (fun f => List.filter f (List.range b.size)) (funext fun i => ?_)
  cases b.toList[i]? <;> rfl
end
/-- values that are bytes, told by their ints -/
noncomputable def BytesAre : List Value → List (List Int) → Prop
  | [], [] => True
  | v :: vs, p :: ps => (∃ b t, v = .bytes b t ∧ KBw.bInts b = p) ∧ BytesAre vs ps
  | _, _ => False
theorem BytesAre.length : ∀ {vs : List Value} {ps : List (List Int)}, BytesAre vs ps → vs.length = ps.length
  | [], [], _ => rfl
  | _ :: _, _ :: _, h => congrArg (· + 1) h.2.length
section
open Builtin Builtin.Bytes
variable {b c : Array UInt8} {t u : Tok} {x : UInt8} {k : Int}
theorem mapM_new {M : Model} : ∀ (L : List (Array UInt8)) (s : Shared) {Q : List Value → Shared → Prop}, (∀ c ∈ L, c.size ≤ sizeLine) → (∀ vs tk, BytesAre vs (L.map KBw.bInts) → Q vs { s with toks := tk }) → wpAny M A (L.mapM Kind.bytes.new) Q E s
  | [], s, _, _, h => by
    rw [List.mapM_nil]
    exact wpAny_pure (h [] s.toks trivial)
  | c :: L, s, _, hz, h => by
    rw [List.mapM_cons]
    refine wpAny_bind (wpAny_mkBytes ?_ (hz c (List.mem_cons_self ..)))
    refine wpAny_bind (mapM_new L _ (fun d hd => hz d (List.mem_cons_of_mem _ hd)) fun vs tk hv => ?_)
    exact wpAny_pure (h _ _ ⟨⟨c, _, rfl, rfl⟩, hv⟩)
theorem pieces_eq (b : Array UInt8) (h0 : 0 ≤ k) (h1 : k < 256) : (between b 1 (idxs (· == k.toNat.toUInt8) b.toList)).map KBw.bInts = splitBy k (KBw.bInts b) := by
  have e : ∀ L : List (Array UInt8), L.map KBw.bInts = (L.map (·.toList)).map (List.map fun c => ((c.toNat : Nat) : Int)) := fun L => by rw [List.map_map]; rfl
  rw [e, between_cuts, ← cuts_split]
  have hm : ∀ (l : List UInt8) (ps : List Nat) (last : Nat), (cuts l last ps).map (List.map fun c => ((c.toNat : Nat) : Int)) = cuts (l.map fun c => ((c.toNat : Nat) : Int)) last ps := by
    intro l ps
    induction ps with
    | nil => intro last; simp [cuts, List.map_drop]
    | cons p ps ih => intro last; simp [cuts, List.map_drop, List.map_take, ih]
  rw [hm]
  congr 1
  unfold idxs
  rw [KBw.ints_length, Array.length_toList]
  refine congrArg (fun f => List.filter f (List.range b.size)) (funext fun i => ?_)
  have hbi : (KBw.bInts b)[i]? = (b.toList[i]?).map fun c => ((c.toNat : Nat) : Int) := List.getElem?_map ..
  rw [hbi]
  cases b.toList[i]? with
  | none => rfl
  | some c =>
    show (c == k.toNat.toUInt8) = (((c.toNat : Nat) : Int) == k)
    rw [Bool.eq_iff_iff, beq_iff_eq, beq_iff_eq]
    have hb := byte_back h0 h1
    constructor
    · rintro rfl; exact hb
    · intro e
      rw [← hb] at e
      exact UInt8.toNat_inj.mp (by exact_mod_cast e)
theorem split_none (k : Int) : ∀ l : List Int, idxs (· == k) l = [] → splitBy k l = [l] := fun l h => by rw [← cuts_split, h]; simp [cuts]
theorem meets_split (h0 : 0 ≤ k) (h1 : k < 256) : Meets («bytes.split» ⟨[.bytes b t, .bytes #[k.toNat.toUInt8] u], []⟩) (fun _ R s => b.size ≤ 4096 ∧
    ∀ vs tk, BytesAre vs (splitBy k (KBw.bInts b)) → R (.ok (.ret (.ref s.heap.objs.size))) { s with heap := s.heap.push { cls := .type "list", data := .seq vs.toArray }, toks := tk }) := by
  refine .of_wp fun prog w A R s hS => ?_
  obtain ⟨hz, hS⟩ := hS
  unfold «bytes.split» splitM
  refine wpAny_bind (wpAny_of_eq (a := [some (Value.bytes #[k.toNat.toUInt8] u), none]) (by kernel_rfl) ?_)
  refine wpAny_bind (wpAny_pure (wpAny_bind (wpAny_of_eq (a := b) rfl ?_)))
  refine wpAny_bind (wpAny_of_eq KBd.like_eq ?_)
  refine bm_if_false rfl ?_
  have ep : (if false = true then occurrencesFromRight b #[k.toNat.toUInt8] (if (-1 : Int) < 0 then b.size + 1 else (-1 : Int).toNat)
    else List.take (if (-1 : Int) < 0 then b.size + 1 else (-1 : Int).toNat) (occurrences b #[k.toNat.toUInt8] 0 b.size)) = idxs (· == k.toNat.toUInt8) b.toList := by
    rw [if_neg Bool.false_ne_true, if_pos (by decide), occ_idxs, List.take_of_length_le]
    exact Nat.le_succ_of_le (Nat.le_trans (List.length_filter_le _ _) (by simp))
  dsimp only
  rw [ep]
  by_cases he : (idxs (· == k.toNat.toUInt8) b.toList).isEmpty = true
  · rw [if_pos he]
    refine wpAny_bind (wpAny_rule (wpAny_bind (wpAny_of_eq (a := Value.bytes b t) rfl ?_)))
    refine wpAny_bind (wpAny_newObj_type (wpAny_pure ⟨_, rfl, ?_⟩) (Nat.le_of_ble_eq_true rfl))
    refine hS [Value.bytes b t] s.toks ?_
    have e1 := pieces_eq b h0 h1
    rw [List.isEmpty_iff.mp he] at e1
    rw [← e1]
    have e2 : (between b 1 []).map (·.toList) = [b.toList] := by rw [between_cuts]; simp [cuts]
    have e3 : (between b 1 []).map KBw.bInts = [KBw.bInts b] := by
      have e : ∀ L : List (Array UInt8), L.map KBw.bInts = (L.map (·.toList)).map (List.map fun c => ((c.toNat : Nat) : Int)) := fun L => by rw [List.map_map]; rfl
      rw [e, e2]; rfl
    rw [e3]
    exact ⟨⟨b, t, rfl, rfl⟩, trivial⟩
  · rw [if_neg he]
    refine wpAny_bind (mapM_new _ _ (fun c hc => ?_) fun vs tk hv => ?_)
    · have : c.toList ∈ (between b 1 (idxs (· == k.toNat.toUInt8) b.toList)).map (·.toList) := List.mem_map_of_mem hc
      rw [between_cuts] at this
      have hl : ∀ (l : List UInt8) (ps : List Nat) (last : Nat), ∀ d ∈ cuts l last ps, d.length ≤ l.length := by
        intro l ps
        induction ps with
        | nil => intro last d hd; simp only [cuts, List.mem_singleton] at hd; rw [hd, List.length_drop]; omega
        | cons p ps ih =>
          intro last d hd
          simp only [cuts, List.mem_cons] at hd
          rcases hd with rfl | hd
          · rw [List.length_take, List.length_drop]; omega
          · exact ih _ d hd
      have := hl _ _ _ _ this
      rw [Array.length_toList, Array.length_toList] at this
      rw [sizeLine_eq]; omega
    · have e1 := pieces_eq b h0 h1
      rw [show (#[k.toNat.toUInt8] : Array UInt8).size = 1 from rfl, e1] at hv
      refine wpAny_bind (wpAny_newObj_type (wpAny_pure ⟨_, rfl, ?_⟩) ?_)
      · exact hS vs tk hv
      · show vs.toArray.size ≤ sizeLine
        rw [List.size_toArray, hv.length, ← e1, List.length_map]
        have : ((between b 1 (idxs (· == k.toNat.toUInt8) b.toList)).map (·.toList)).length ≤ b.size + 1 := by
          rw [between_cuts]
          have hl : ∀ (l : List UInt8) (ps : List Nat) (last : Nat), (cuts l last ps).length = ps.length + 1 := by
            intro l ps
            induction ps with
            | nil => intro last; rfl
            | cons p ps ih => intro last; simp [cuts, ih]
          rw [hl]
          have h2 : (idxs (· == k.toNat.toUInt8) b.toList).length ≤ b.toList.length := by
            unfold idxs
            exact Nat.le_trans (List.length_filter_le _ _) (by simp)
          rw [Array.length_toList] at h2
          exact Nat.succ_le_succ h2
        rw [List.length_map] at this
        rw [sizeLine_eq]; omega
end

section
open Builtin Builtin.Bytes
variable {prog : Program} {w : World} {h₀ : Heap} {L : Addr} {m : Str → Option Value} {news : List (Addr × Obj)} {b c : Array UInt8} {t u : Tok} {x : UInt8} {k : Int} {ks ls : List Int}
theorem contains_ints (h0 : 0 ≤ k) (h1 : k < 256) (hk : KBw.bInts b = ks) : b.contains k.toNat.toUInt8 = ks.contains k := by
  subst hk
  rw [Bool.eq_iff_iff, Array.contains_iff_mem, List.contains_iff_mem, ← Array.mem_toList_iff]
  have hb := byte_back h0 h1
  unfold KBw.bInts
  rw [List.mem_map]
  constructor
  · intro hm; exact ⟨_, hm, hb⟩
  · rintro ⟨c, hc, e⟩
    rw [← hb] at e
    rw [← UInt8.toNat_inj.mp (show c.toNat = k.toNat.toUInt8.toNat by exact_mod_cast e)]
    exact hc
theorem in_K (hk : KBw.bInts b = ks) (h0 : 0 ≤ k) (h1 : k < 256) (h : Q (.bool (ks.contains k)) s) : wpAny (model prog w) A (compareOp .In (.int k u) (.bytes b t)) Q E s :=
  in_gives (PySem.W.typeIs_bytes s b t) FB.slot_bytes_contains FB.entry_bytes_contains (FB.args_bytes_contains_2 _ _) (gives_contains h0 h1) (by rw [contains_ints h0 h1 hk]; exact h)
theorem notIn_K (hk : KBw.bInts b = ks) (h0 : 0 ≤ k) (h1 : k < 256) (h : Q (.bool (!ks.contains k)) s) : wpAny (model prog w) A (compareOp .NotIn (.int k u) (.bytes b t)) Q E s :=
  notIn_gives (PySem.W.typeIs_bytes s b t) FB.slot_bytes_contains FB.entry_bytes_contains (FB.args_bytes_contains_2 _ _) (gives_contains h0 h1) (by rw [contains_ints h0 h1 hk]; exact h)
theorem one_octet (hc : KBw.bInts c = [k]) : c = #[k.toNat.toUInt8] ∧ 0 ≤ k ∧ k < 256 := by
  have hin := KBw.ints_in (b := c) (k := k) (by rw [hc]; simp)
  obtain ⟨l⟩ := c
  cases l with
  | nil => cases hc
  | cons y l =>
    have e1 : ((y.toNat : Nat) : Int) = k ∧ l = [] := by
      have := hc
      simp only [KBw.bInts, List.map_cons, List.cons.injEq, List.map_eq_nil_iff] at this
      exact this
    refine ⟨?_, hin⟩
    rw [e1.2]
    have := byte_back hin.1 hin.2
    rw [UInt8.toNat_inj.mp (show y.toNat = k.toNat.toUInt8.toNat by have := e1.1; omega)]
theorem find_K (hk : KBw.bInts b = ks) (hc : KBw.bInts c = [k]) (h : ∀ t' k', Q (.int (placeI ks k) t') { s with toks := k' }) : wpAny (model prog w) A (call (.builtin "bytes.find") [.bytes b t, .bytes c u]) Q E s := by
  obtain ⟨rfl, h0, h1⟩ := one_octet hc
  refine call_gives slot_find (PySem.W.typeIs_bytes _ _ _) entry_find (args_find _ _) gives_find ?_
  rw [ints_findIdx b h0 h1, hk]
  exact h _ _
theorem index_K {i : Nat} (hk : KBw.bInts b = ks) (h0 : 0 ≤ k) (h1 : k < 256) (hi : ks.findIdx? (· == k) = some i) (h : ∀ t' k', Q (.int (i : Int) t') { s with toks := k' }) : wpAny (model prog w) A (call (.builtin "bytes.index") [.bytes b t, .int k u]) Q E s :=
  call_gives slot_index (PySem.W.typeIs_bytes _ _ _) entry_index (args_index _ _) (gives_index h0 h1 (by rw [ints_findIdx b h0 h1, hk]; exact hi)) (h _ _)
theorem split_K (F : Fr h₀ L s.heap m) (N : News h₀ L s.heap news) (hk : KBw.bInts b = ks) (hc : KBw.bInts c = [k]) (hz : ks.length ≤ 4096)
    (h : ∀ D h' tk vs, Fr h₀ L h' m → News h₀ L h' ((D, { cls := .type "list", data := .seq vs.toArray }) :: news) → BytesAre vs (splitBy k ks) → Q (.ref D) { s with heap := h', toks := tk }) :
    wpAny (model prog w) A (call (.builtin "bytes.split") [.bytes b t, .bytes c u]) Q E s := by
  obtain ⟨rfl, h0, h1⟩ := one_octet hc
  subst hk
  exact call_meets slot_split (PySem.W.typeIs_bytes _ _ _) entry_split (args_split _ _) (meets_split h0 h1) ⟨by rw [← KBw.ints_length]; exact hz, fun vs tk hv => h _ _ tk vs (F.push _) (N.push F _) hv⟩
theorem m_find {M : Model} {pl : Sem Bool} {Q : Value × List Value → Shared → Prop} (h : Q (.builtin "bytes.find", [.bytes b t]) s) : wpAny M A (getMethod (.bytes b t) "find" pl) Q E s := by
  with_reducible exact KBd.method_of (.bytes b t) (PySem.W.typeIs_bytes _ _ _) slot_find type_find KBd.noRef h
theorem m_index {M : Model} {pl : Sem Bool} {Q : Value × List Value → Shared → Prop} (h : Q (.builtin "bytes.index", [.bytes b t]) s) : wpAny M A (getMethod (.bytes b t) "index" pl) Q E s := by
  with_reducible exact KBd.method_of (.bytes b t) (PySem.W.typeIs_bytes _ _ _) slot_index type_index KBd.noRef h
theorem m_split {M : Model} {pl : Sem Bool} {Q : Value × List Value → Shared → Prop} (h : Q (.builtin "bytes.split", [.bytes b t]) s) : wpAny M A (getMethod (.bytes b t) "split" pl) Q E s := by
  with_reducible exact KBd.method_of (.bytes b t) (PySem.W.typeIs_bytes _ _ _) slot_split type_split KBd.noRef h
end
local macro_rules
  | `(tactic| walk_at "getMethod bytes") => `(tactic| first | with_reducible refine m_find ?_ | with_reducible refine m_index ?_ | with_reducible refine m_split ?_)
  | `(tactic| walk_at "compareOp In int bytes") => `(tactic| (k_here; k_dflt (refine in_K (by kba_ints2) (by kba_idx) (by kba_idx) ?_)))
  | `(tactic| walk_at "compareOp NotIn int bytes") => `(tactic| (k_here; k_dflt (refine notIn_K (by kba_ints2) (by kba_idx) (by kba_idx) ?_)))
  | `(tactic| walk_at "call builtin:bytes.find") => `(tactic| (k_here; k_dflt (refine find_K (by kba_ints2) (by kba_ints2) ?_); intro _ _))
  | `(tactic| walk_at "call builtin:bytes.split") => `(tactic| walk_at "m_hold")

/-- the range that octets tell -/
noncomputable def rangeOf (ks : List Int) : Option (Int × Int) := match splitBy 44 ks with
  | [p] => match numOf p with
    | some n => if n = 0 then none else some (n, 1)
    | none => none
  | [p, q] => match numOf p, numOf q with
    | some a, some b => if a = 0 ∧ b > 0 then none else some (a, b)
    | _, _ => none
  | _ => none
theorem split_len (k : Int) : ∀ l : List Int, ∀ p ∈ splitBy k l, p.length ≤ l.length
  | [], p, hp => by simp only [splitBy, List.mem_singleton] at hp; subst hp; exact Nat.le_refl _
  | y :: l, p, hp => by
    have ih := split_len k l
    simp only [splitBy] at hp
    split at hp
    · rcases List.mem_cons.mp hp with rfl | hp
      · exact Nat.zero_le _
      · exact Nat.le_succ_of_le (ih p hp)
    · split at hp
      · simp only [List.mem_singleton] at hp
        subst hp; simp
      · rename_i q qs hq
        rw [hq] at ih
        rcases List.mem_cons.mp hp with rfl | hp
        · exact Nat.succ_le_succ (ih q (List.mem_cons_self ..))
        · exact Nat.le_succ_of_le (ih p (List.mem_cons_of_mem _ hp))
theorem splitBy_len (k : Int) : ∀ l : List Int, (splitBy k l).length ≤ l.length + 1
  | [] => by simp [splitBy]
  | y :: l => by
    have ih := splitBy_len k l
    simp only [splitBy]
    split
    · simp only [List.length_cons]; omega
    · split
      · simp
      · rename_i hq; rw [hq] at ih; simp only [List.length_cons] at *; omega
theorem one_of {α : Type} {l : List α} (h : l.length = 1) : ∃ a, l = [a] := by
  cases l with
  | nil => cases h
  | cons a l => cases l with
    | nil => exact ⟨a, rfl⟩
    | cons b l => cases h
theorem two_of {α : Type} {l : List α} (h : l.length = 2) : ∃ a b, l = [a, b] := by
  cases l with
  | nil => cases h
  | cons a l => obtain ⟨b, rfl⟩ := one_of (Nat.succ.inj h); exact ⟨a, b, rfl⟩
section
local macro_rules | `(tactic| walk_at "call ref") => `(tactic| (k_here; k_dflt (refine' c_told _ ?kh ?kB ?kX ?kT ?kd ?ku ?k1 ?k2 ?_ ?_; ((((walk_at "m_prem"; (case k1 => (first | kba_ints | assumption | omega | decide | (simp only [List.length_take, List.length_append, List.length_drop, List.length_replicate, List.length_map, List.length_cons, List.length_nil, KBc.clip_lit, clipAt_nat]; omega))))); (case k2 => (first | kba_ints | assumption | omega | decide | (simp only [List.length_take, List.length_append, List.length_drop, List.length_replicate, List.length_map, List.length_cons, List.length_nil, KBc.clip_lit, clipAt_nat]; omega)))))); all_goals (intros; try (((with_reducible rename Fr _ _ _ _ => mF); (with_reducible rename News _ _ _ _ => mN); (with_reducible rename Keeps _ _ => mK); (have zF := Fr.keptAll mF mK); (have zN := News.grown mN mK); clear mN mF mK; (try dsimp only); (try k_fold))))))
theorem c_range (hh : A.handled = none) (B : Below A base outer s.heap) (X : (hd.heap_39 w.params).In s.heap) (T : Top hd.view_39 LO mean mg mb s.heap) (hdp : A.depth + 80 < recursionLimit) (hun : A.units + 240 < cLine)
    {b : Array UInt8} {ks : List Int} {t : Tok} (hb : KBw.bInts b = ks) (hk : ks.length ≤ 4096)
    (hQ : ∀ x y tx ty D h', rangeOf ks = some (x, y) → Keeps s.heap h' → h'.get? D = some { cls := .type "tuple", data := .seq #[.int x tx, .int y ty] } → s.heap.get? D = none → ∀ tk', Q (.ref D) { s with heap := h', toks := tk' })
    (hE : ∀ e h', rangeOf ks = none → Flew outer s.heap e h' → ∀ tk', E (.ref e) { s with heap := h', toks := tk' }) :
    wpAny (model PySem.Challenge.rw_pb0094_01.row.prog w) A (call (.ref 155) [.bytes b t]) Q E s := by
  ((((
  (with_reducible rename Frag.In _ _ => mX0); revert mX0; k_fill; intro mX1
  (with_reducible rename Below _ _ _ _ => mB0); (with_reducible rename (Around.handled _ = none) => mh0); (with_reducible rename (Around.depth _ + _ < recursionLimit) => md0); (with_reducible rename (Around.units _ + _ < cLine) => mu0)
  first | refine m_open mh0 mB0 md0 mu0 ?_ | refine s_open mh0 mB0 md0 mu0 ?_
  clear mh0 mB0 md0 mu0
  intro zdp zun zgd mB1 md1 mu1)); (first
  | (refine' enterP ?s1x21x22 ?s2x21x22 ?s3x21x22 ?s4x21x22 ?s5x21x22 ?s6x21x22 ?s7x21x22 ?s8x21x22 ?s9x21x22 ?_ ?s11x21x22 ?s12x21x22 ?s13x21x22 ?s14x21x22; (((case s1x21x22 => k_asm); (case s2x21x22 => k_asm); (case s3x21x22 => k_asm); (case s4x21x22 => first | assumption | exact Led.refl _); (case s5x21x22 => k_is); (case s6x21x22 => k_is); (case s7x21x22 => walk_at "m_rd"); (case s8x21x22 => first | exact BindsTo.of_eq rfl | exact binds_K (by k_in) rfl (by k_is) rfl rfl rfl); (case s9x21x22 => first | exact rfl | exact locs rfl); (try (case s10x21x22 => first | exact rfl | decide +kernel)); (case s11x21x22 => exact rfl); (case s12x21x22 => exact rfl); (case s13x21x22 => exact rfl))); (case s14x21x22 => decide); k_whole; intro zL zh zF zN; (try dsimp only); (try k_fold))
  | (refine' enterC ?s1x21x22 ?s2x21x22 ?s3x21x22 ?s4x21x22 ?s5x21x22 ?s6x21x22 ?s7x21x22 ?s8x21x22 ?s9x21x22 ?s10x21x22 ?_ ?s11x21x22 ?s12x21x22 ?s13x21x22; (((case s1x21x22 => k_asm); (case s2x21x22 => k_asm); (case s3x21x22 => k_asm); (case s4x21x22 => first | assumption | exact Led.refl _); (case s5x21x22 => k_is); (case s6x21x22 => k_is); (case s7x21x22 => walk_at "m_rd"); (case s8x21x22 => first | exact BindsTo.of_eq rfl | exact binds_K (by k_in) rfl (by k_is) rfl rfl rfl); (case s9x21x22 => first | exact rfl | exact locs rfl); (try (case s10x21x22 => first | exact rfl | decide +kernel)); (case s11x21x22 => exact rfl); (case s12x21x22 => exact rfl); (case s13x21x22 => exact rfl))); k_whole; intro zL zh ztk zcells zF zN zY zl; (try k_lt zl); k_cells zY; (try simp only [List.cons_append, List.nil_append] at zN); (try dsimp only); (try k_fold)))))
  (repeat' (first | (k_unfold; (try dsimp only)) | walk1 | (k_unmd; k_unfold; (try dsimp only)) | (dsimp only; first | (k_unfold; (try dsimp only)) | walk1)))
  unfold Hold
  refine split_K (k := 44) (by k_asm) (by k_asm) hb (by rfl) hk fun D h' tk vs F N hv => ?_
  have hsl := split_len 44 ks
  have hne := splitBy_ne 44 ks
  unfold rangeOf at hQ hE
  have hlp := splitBy_len 44 ks
  generalize splitBy 44 ks = ps at hv hsl hne hQ hE hlp
  have hlen := hv.length
  rcases ps with _ | ⟨p1, _ | ⟨p2, _ | ⟨p3, ps⟩⟩⟩
  · exact absurd rfl hne
  · obtain ⟨v1, rfl⟩ := one_of hlen
    clear hlen
    obtain ⟨⟨b1, t1, rfl, hb1⟩, -⟩ := hv
    have hl1 := hsl p1 (by simp)
    clear hsl hne
    (repeat' (first | (k_unfold; (try dsimp only)) | walk1 | (k_unmd; k_unfold; (try dsimp only)) | (dsimp only; first | (k_unfold; (try dsimp only)) | walk1)))
    · (rename numOf _ = some _ => e1)
      exact hE _ _ (by dsimp only; rw [e1]; dsimp only; rw [if_pos (by omega)]) (by assumption) _
    · (rename numOf _ = some _ => e1)
      exact hQ _ _ _ _ _ _ (by dsimp only; rw [e1]; dsimp only; rw [if_neg (by omega)]) (Fr.keep (by assumption)) (News.get (by k_asm) (by k_mem)) (News.fresh (by k_asm) (by k_mem)) _
    · (rename numOf _ = none => e1)
      exact hE _ _ (by dsimp only; rw [e1]) (by assumption) _
  · obtain ⟨v1, v2, rfl⟩ := two_of hlen
    clear hlen
    obtain ⟨⟨b1, t1, rfl, hb1⟩, ⟨b2, t2, rfl, hb2⟩, -⟩ := hv
    have hl1 := hsl p1 (by simp)
    have hl2 := hsl p2 (by simp)
    clear hsl hne
    (repeat' (first | (k_unfold; (try dsimp only)) | walk1 | (k_unmd; k_unfold; (try dsimp only)) | (dsimp only; first | (k_unfold; (try dsimp only)) | walk1)))
    · (rename numOf p1 = some _ => e1); (rename numOf p2 = some _ => e2)
      exact hE _ _ (by dsimp only; rw [e1, e2]; dsimp only; rw [if_pos (by omega)]) (by assumption) _
    · (rename numOf p1 = some _ => e1); (rename numOf p2 = some _ => e2)
      exact hQ _ _ _ _ _ _ (by dsimp only; rw [e1, e2]; dsimp only; rw [if_neg (by omega)]) (Fr.keep (by assumption)) (News.get (by k_asm) (by k_mem)) (News.fresh (by k_asm) (by k_mem)) _
    · (rename numOf p1 = some _ => e1); (rename numOf p2 = some _ => e2)
      exact hQ _ _ _ _ _ _ (by dsimp only; rw [e1, e2]; dsimp only; rw [if_neg (by omega)]) (Fr.keep (by assumption)) (News.get (by k_asm) (by k_mem)) (News.fresh (by k_asm) (by k_mem)) _
    · (rename numOf p1 = some _ => e1); (rename numOf p2 = none => e2)
      exact hE _ _ (by dsimp only; rw [e1, e2]) (by assumption) _
    · (rename numOf p1 = none => e1)
      exact hE _ _ (by dsimp only; rw [e1]) (by assumption) _
  · have hlps : (p1 :: p2 :: p3 :: ps).length ≤ 4100 := by
      omega
    clear hsl hne hv
    (repeat' (first | (k_unfold; (try dsimp only)) | walk1 | (k_unmd; k_unfold; (try dsimp only)) | (dsimp only; first | (k_unfold; (try dsimp only)) | walk1)))
    refine Calls.call_len_list (News.isList (by k_asm) (by k_mem)) (by simp only [List.size_toArray, hlen]; omega) ?_
    simp only [List.size_toArray, hlen, List.length_cons]
    (repeat' (first | (k_unfold; (try dsimp only)) | walk1 | (k_unmd; k_unfold; (try dsimp only)) | (dsimp only; first | (k_unfold; (try dsimp only)) | walk1)))
    exact hE _ _ rfl (by assumption) _
end

/-- six octal figures -/
noncomputable def octDigits (m : Int) : List Int := [48 + m / 32768 % 8, 48 + m / 4096 % 8, 48 + m / 512 % 8, 48 + m / 64 % 8, 48 + m / 8 % 8, 48 + m % 8]
noncomputable def Modes (m : Int) : Prop := m = 33188 ∨ m = 33261 ∨ m = 40960 ∨ m = 57344 ∨ m = 33152
noncomputable def dg8 (m : Int) : Nat → Int
  | 0 => m
  | i + 1 => (dg8 m i).fdiv 8
noncomputable def sg8 (m : Int) : Nat → List Int
  | 0 => [48 + m.fmod 8]
  | i + 1 => sg8 m i ++ [48 + (dg8 m (i + 1)).fmod 8]
theorem oo_facts {m : Int} (hm : Modes m) : (∀ i, i < 5 → 8 ≤ dg8 m i) ∧ ¬ 8 ≤ dg8 m 5 := by
  rcases hm with rfl | rfl | rfl | rfl | rfl <;> decide
theorem oo_list {m : Int} (hm : Modes m) : [48 + (dg8 m 5).fmod 8, 48 + (dg8 m 4).fmod 8, 48 + (dg8 m 3).fmod 8, 48 + (dg8 m 2).fmod 8, 48 + (dg8 m 1).fmod 8, 48 + m.fmod 8] = octDigits m := by
  rcases hm with rfl | rfl | rfl | rfl | rfl <;> decide
theorem sg8_length (m : Int) (i : Nat) : (sg8 m i).length = i + 1 := by
  induction i with
  | zero => rfl
  | succ i ih => rw [sg8, List.length_append, ih]; rfl
theorem six_ints {l : List Value} {a b c d e f : Int} (h : IntsAre l [a, b, c, d, e, f]) : ∃ t0 t1 t2 t3 t4 t5, l = [.int a t0, .int b t1, .int c t2, .int d t3, .int e t4, .int f t5] := by
  cases h with | cons _ t0 h => cases h with | cons _ t1 h => cases h with | cons _ t2 h => cases h with | cons _ t3 h => cases h with | cons _ t4 h => cases h with | cons _ t5 h => cases h; exact ⟨_, _, _, _, _, _, rfl⟩
theorem fr_as {g h : Heap} {L : Addr} {m m' : Str → Option Value} (F : Fr g L h m) (e : ∀ z, m z = m' z) : Fr g L h m' := by rw [← funext e]; exact F
theorem map2 {m : Str → Option Value} {a b : Str} {v v' : Value} (h : m a = some v) (h' : m b = some v') (z : Str) : m z = if z = a then some v else if z = b then some v' else m z := by
  by_cases q : z = a
  · rw [if_pos q, q, h]
  · by_cases q' : z = b
    · rw [if_neg q, if_pos q', q', h']
    · rw [if_neg q, if_neg q']
/-- between the turns of the octal figures -/
noncomputable def JW (m : Int) (s : Shared) (L S : Addr) (i : Nat) (s' : Shared) : Prop :=
  ∃ (h : Heap) (tk : Nat) (its : Array Value) (t : Tok) (u : Str → Option Value), s' = { s with heap := h, toks := tk } ∧ Fr s.heap L h u ∧ u (Str.ofString "found") = some (.ref S) ∧ u (Str.ofString "number") = some (.int (dg8 m i) t) ∧ News s.heap L h [(S, PySem.W.listOf its i)] ∧ IntsAre its.toList (sg8 m i)
theorem JW_end {m : Int} {s : Shared} {L S : Addr} {i : Nat} {h : Heap} {tk : Nat} {its : Array Value} {t t' : Tok} {u : Str → Option Value} (hI : IntsAre its.toList (sg8 m i)) (F : Fr s.heap L h u)
    (N : News s.heap L h [(S, PySem.W.listOf (its.push (.int (48 + (dg8 m (i + 1)).fmod 8) t')) (i + 1))]) (h1 : u (Str.ofString "found") = some (.ref S)) (h2 : u (Str.ofString "number") = some (.int (dg8 m (i + 1)) t)) :
    JW m s L S (i + 1) { s with heap := h, toks := tk } := ⟨h, tk, _, t, u, rfl, F, h1, h2, N, by rw [Array.toList_push]; exact IntsAre.append hI (.cons _ _ .nil)⟩
/-- a while loop of n turns -/
theorem whl_J {prog : Program} {w : World} {A : Around} {E : Value → Shared → Prop} {s : Shared} {env : Env} {test : Expr} {body orelse : List Stmt} {Q : Flow → Shared → Prop} {n : Nat} (J : Nat → Shared → Prop)
    (step : ∀ i s', i < n → J i s' → (∀ s'', J (i + 1) s'' → WhlRest prog w A E env test body orelse Q 0 s'') → WhlRest prog w A E env test body orelse Q 1 s')
    (stop : ∀ s', J n s' → WhlRest prog w A E env test body orelse Q 1 s') (k : Nat) (h : J 0 s) : WhlRest prog w A E env test body orelse Q k s := by
  have H : ∀ j i s', i + j = n → J i s' → WhlRest prog w A E env test body orelse Q 0 s' := by
    intro j
    induction j with
    | zero => rintro i s' rfl hj; exact stop s' hj
    | succ j ih => intro i s' e hj; exact step i s' (by omega) hj fun s'' hj' => ih (i + 1) s'' (by omega) hj'
  exact H n 0 s (Nat.zero_add n) h
local macro_rules
  | `(tactic| walk_at "WhlRest") => `(tactic| refine Mark.hold "whl" (by assumption) ?_)
theorem oo_in {m : Int} (hm : Modes m) : KBa.In (octDigits m) := by
  rcases hm with rfl | rfl | rfl | rfl | rfl <;> (unfold KBa.In; decide +kernel)
section
set_option pp.deepTerms false
set_option pp.maxSteps 1500
theorem c_oo (hh : A.handled = none) (B : Below A base outer s.heap) (X : (hd.heap_39 w.params).In s.heap) (T : Top hd.view_39 LO mean mg mb s.heap) (hdp : A.depth + 20 < recursionLimit) (hun : A.units + 60 < cLine)
    {m : Int} {t : Tok} (hm : Modes m)
    (hQ : ∀ b t' h', KBw.bInts b = octDigits m → Keeps s.heap h' → ∀ tk', Q (.bytes b t') { s with heap := h', toks := tk' }) :
    wpAny (model PySem.Challenge.rw_pb0094_01.row.prog w) A (call (.ref 113) [.int m t]) Q E s := by
  obtain ⟨f0, f5⟩ := oo_facts hm
  ((((
  (with_reducible rename Frag.In _ _ => mX0); revert mX0; k_fill; intro mX1
  (with_reducible rename Below _ _ _ _ => mB0); (with_reducible rename (Around.handled _ = none) => mh0); (with_reducible rename (Around.depth _ + _ < recursionLimit) => md0); (with_reducible rename (Around.units _ + _ < cLine) => mu0)
  first | refine m_open mh0 mB0 md0 mu0 ?_ | refine s_open mh0 mB0 md0 mu0 ?_
  clear mh0 mB0 md0 mu0
  intro zdp zun zgd mB1 md1 mu1)); (first
  | (refine' enterP ?s1x23x24 ?s2x23x24 ?s3x23x24 ?s4x23x24 ?s5x23x24 ?s6x23x24 ?s7x23x24 ?s8x23x24 ?s9x23x24 ?_ ?s11x23x24 ?s12x23x24 ?s13x23x24 ?s14x23x24; (((case s1x23x24 => k_asm); (case s2x23x24 => k_asm); (case s3x23x24 => k_asm); (case s4x23x24 => first | assumption | exact Led.refl _); (case s5x23x24 => k_is); (case s6x23x24 => k_is); (case s7x23x24 => walk_at "m_rd"); (case s8x23x24 => first | exact BindsTo.of_eq rfl | exact binds_K (by k_in) rfl (by k_is) rfl rfl rfl); (case s9x23x24 => first | exact rfl | exact locs rfl); (try (case s10x23x24 => first | exact rfl | decide +kernel)); (case s11x23x24 => exact rfl); (case s12x23x24 => exact rfl); (case s13x23x24 => exact rfl))); (case s14x23x24 => decide); k_whole; intro zL zh zF zN; (try dsimp only); (try k_fold))
  | (refine' enterC ?s1x23x24 ?s2x23x24 ?s3x23x24 ?s4x23x24 ?s5x23x24 ?s6x23x24 ?s7x23x24 ?s8x23x24 ?s9x23x24 ?s10x23x24 ?_ ?s11x23x24 ?s12x23x24 ?s13x23x24; (((case s1x23x24 => k_asm); (case s2x23x24 => k_asm); (case s3x23x24 => k_asm); (case s4x23x24 => first | assumption | exact Led.refl _); (case s5x23x24 => k_is); (case s6x23x24 => k_is); (case s7x23x24 => walk_at "m_rd"); (case s8x23x24 => first | exact BindsTo.of_eq rfl | exact binds_K (by k_in) rfl (by k_is) rfl rfl rfl); (case s9x23x24 => first | exact rfl | exact locs rfl); (try (case s10x23x24 => first | exact rfl | decide +kernel)); (case s11x23x24 => exact rfl); (case s12x23x24 => exact rfl); (case s13x23x24 => exact rfl))); k_whole; intro zL zh ztk zcells zF zN zY zl; (try k_lt zl); k_cells zY; (try simp only [List.cons_append, List.nil_append] at zN); (try dsimp only); (try k_fold)))))
  have mark0 := @Mark.on "whl"
  (repeat' (first | (k_unfold; (try dsimp only)) | walk1 | (k_unmd; k_unfold; (try dsimp only)) | (dsimp only; first | (k_unfold; (try dsimp only)) | walk1)))
  unfold Hold
  rename Fr _ _ _ _ => F1
  rename News _ _ _ _ => N1
  refine whl_J (n := 5) (JW m s _ _) ?step ?stop 0 ⟨_, _, #[_], _, _, rfl, F1, rfl, by rfl, N1, .cons _ _ .nil⟩
  case step =>
    clear F1 N1
    rintro i s' hi ⟨hp, tk, its, tn, u, rfl, F, hu1, hu2, N, hin⟩ hnext
    replace F := fr_as F (map2 hu1 hu2)
    clear hu1 hu2
    have hsz : its.size ≤ 6 := by rw [Array.size_eq_length_toList, IntsAre.length hin, sg8_length]; exact Nat.le_succ_of_le hi
    refine' whl_turn ?hE ?_
    case hE => passes_own
    (repeat' (first | (k_unfold; (try dsimp only)) | walk1 | (k_unmd; k_unfold; (try dsimp only)) | (dsimp only; first | (k_unfold; (try dsimp only)) | walk1)))
    refine WhlIf.yes (decide_eq_true (f0 i hi)) ?_
    (repeat' (first | (k_unfold; (try dsimp only)) | walk1 | (k_unmd; k_unfold; (try dsimp only)) | (dsimp only; first | (k_unfold; (try dsimp only)) | walk1)))
    unfold Hold
    rename News _ _ _ _ => N2
    exact hnext _ (JW_end hin (by k_asm) N2 (by rfl) (by rfl))
  clear F1 N1
  rintro s' ⟨hp, tk, ⟨l⟩, tn, u, rfl, F, hu1, hu2, N, hin⟩
  replace F := fr_as F (map2 hu1 hu2)
  clear hu1 hu2
  obtain ⟨t0, t1, t2, t3, t4, t5, rfl⟩ := six_ints hin
  refine' whl_turn ?hE ?_
  case hE => passes_own
  (repeat' (first | (k_unfold; (try dsimp only)) | walk1 | (k_unmd; k_unfold; (try dsimp only)) | (dsimp only; first | (k_unfold; (try dsimp only)) | walk1)))
  refine WhlIf.no (decide_eq_false f5) ?_
  (repeat' (first | (k_unfold; (try dsimp only)) | walk1 | (k_unmd; k_unfold; (try dsimp only)) | (dsimp only; first | (k_unfold; (try dsimp only)) | walk1)))
  have e1 := oo_list hm
  refine' KBa.make_K (ns := octDigits m) ?kF ?kN ?kh ?kl ?ki (oo_in hm) ?kn ?_
  case kF => k_asm
  case kN => k_asm
  case kh => rfl
  case kl => kba_isList
  case ki =>
    rw [← e1]
    l_ints
  case kn => exact Nat.le_of_ble_eq_true rfl
  intro h' t' k' F N hin
  exact hQ _ _ _ (KBa.ints_make hin) F.keep _
end
theorem c_mode (hh : A.handled = none) (B : Below A base outer s.heap) (X : (hd.heap_39 w.params).In s.heap) (T : Top hd.view_39 LO mean mg mb s.heap) (hdp : A.depth + 40 < recursionLimit) (hun : A.units + 120 < cLine)
    {m : Int} {t : Tok} (hm : Modes m)
    (hQ : ∀ b t' h', KBw.bInts b = octDigits m → Keeps s.heap h' → ∀ tk', Q (.bytes b t') { s with heap := h', toks := tk' }) :
    wpAny (model PySem.Challenge.rw_pb0094_01.row.prog w) A (call (.ref 120) [.int m t]) Q E s := by
  have mark0 := @Mark.on "call"
  ((((
  (with_reducible rename Frag.In _ _ => mX0); revert mX0; k_fill; intro mX1
  (with_reducible rename Below _ _ _ _ => mB0); (with_reducible rename (Around.handled _ = none) => mh0); (with_reducible rename (Around.depth _ + _ < recursionLimit) => md0); (with_reducible rename (Around.units _ + _ < cLine) => mu0)
  first | refine m_open mh0 mB0 md0 mu0 ?_ | refine s_open mh0 mB0 md0 mu0 ?_
  clear mh0 mB0 md0 mu0
  intro zdp zun zgd mB1 md1 mu1)); (first
  | (refine' enterP ?s1x25x26 ?s2x25x26 ?s3x25x26 ?s4x25x26 ?s5x25x26 ?s6x25x26 ?s7x25x26 ?s8x25x26 ?s9x25x26 ?_ ?s11x25x26 ?s12x25x26 ?s13x25x26 ?s14x25x26; (((case s1x25x26 => k_asm); (case s2x25x26 => k_asm); (case s3x25x26 => k_asm); (case s4x25x26 => first | assumption | exact Led.refl _); (case s5x25x26 => k_is); (case s6x25x26 => k_is); (case s7x25x26 => walk_at "m_rd"); (case s8x25x26 => first | exact BindsTo.of_eq rfl | exact binds_K (by k_in) rfl (by k_is) rfl rfl rfl); (case s9x25x26 => first | exact rfl | exact locs rfl); (try (case s10x25x26 => first | exact rfl | decide +kernel)); (case s11x25x26 => exact rfl); (case s12x25x26 => exact rfl); (case s13x25x26 => exact rfl))); (case s14x25x26 => decide); k_whole; intro zL zh zF zN; (try dsimp only); (try k_fold))
  | (refine' enterC ?s1x25x26 ?s2x25x26 ?s3x25x26 ?s4x25x26 ?s5x25x26 ?s6x25x26 ?s7x25x26 ?s8x25x26 ?s9x25x26 ?s10x25x26 ?_ ?s11x25x26 ?s12x25x26 ?s13x25x26; (((case s1x25x26 => k_asm); (case s2x25x26 => k_asm); (case s3x25x26 => k_asm); (case s4x25x26 => first | assumption | exact Led.refl _); (case s5x25x26 => k_is); (case s6x25x26 => k_is); (case s7x25x26 => walk_at "m_rd"); (case s8x25x26 => first | exact BindsTo.of_eq rfl | exact binds_K (by k_in) rfl (by k_is) rfl rfl rfl); (case s9x25x26 => first | exact rfl | exact locs rfl); (try (case s10x25x26 => first | exact rfl | decide +kernel)); (case s11x25x26 => exact rfl); (case s12x25x26 => exact rfl); (case s13x25x26 => exact rfl))); k_whole; intro zL zh ztk zcells zF zN zY zl; (try k_lt zl); k_cells zY; (try simp only [List.cons_append, List.nil_append] at zN); (try dsimp only); (try k_fold)))))
  have hl6 : (octDigits m).length = 6 := rfl
  (repeat' (first | (k_unfold; (try dsimp only)) | walk1 | (k_unmd; k_unfold; (try dsimp only)) | (dsimp only; first | (k_unfold; (try dsimp only)) | walk1)))
  unfold Hold
  refine c_oo w rfl (by walk_at "m_B") (by walk_at "m_X") (by walk_at "m_T") (by walk_at "m_rd") (by walk_at "m_ru") hm ?_
  intro b' t' h' hb' hk' tk'
  (((with_reducible rename Fr _ _ _ _ => mF); (with_reducible rename News _ _ _ _ => mN); (with_reducible rename Keeps _ _ => mK); (have zF := Fr.keptAll mF mK); (have zN := News.grown mN mK); clear mN mF mK; (try dsimp only); (try k_fold)))
  (repeat' (first | (k_unfold; (try dsimp only)) | walk1 | (k_unmd; k_unfold; (try dsimp only)) | (dsimp only; first | (k_unfold; (try dsimp only)) | walk1)))
  (rename KBw.bInts (KBy.picked _ _ _) = _ => e)
  exact hQ _ _ _ (e.trans rfl) (Fr.keep (by assumption)) _

/-- a bytearray's object -/
noncomputable abbrev baObj (b : Array UInt8) : Obj := { cls := .type "bytearray", data := .bytearray b }
set_option maxRecDepth 1000000 in
theorem owner_ba_new : ("bytearray.__new__".splitOn ".__new__").headD "" = "bytearray" := by simp +decide [String.splitOn, String.splitOnAux]
theorem ba_mro : mroOf (.type "bytearray") = pure [.type "bytearray", .type "object"] := by rw [mroOf_type]; kernel_rfl
theorem ba_look_new : typeLookup (.type "bytearray") "__new__" = pure (some (.builtin "bytearray.__new__")) := by rw [typeLookup_type, builtinLookup_eq_fast]; kernel_rfl
theorem ba_sub : isSubtype (.type "bytearray") (.type "bytearray") = pure true := by rw [isSubtype_type]; kernel_rfl
theorem ba_init : Slot "bytearray" "__init__" "bytearray.__init__" :=
  .of (owner := "bytearray") (n := "__init__") (by rw [typeLookup_type, builtinLookup_eq_fast]; kernel_rfl) (by decide +kernel) (by decide +kernel) (by decide +kernel)
    (by first | exact .inl (by decide +kernel) | exact .inr (by decide +kernel)) (by rw [isSubtype_type]; kernel_rfl)
theorem ba_called : TypeCalled "bytearray" "bytearray.__new__" "bytearray.__init__" :=
  ⟨by decide +kernel, by decide +kernel, ⟨_, _, ba_mro⟩, madeBy_type ba_mro ba_look_new (by decide +kernel), by decide +kernel, by rw [isSubtype_type]; kernel_rfl, ba_init⟩
theorem ba_typeCall_0 : checkTypeCall "bytearray" ⟨[], []⟩ = pure () := by kernel_rfl
theorem ba_typeCall_1 (a : Value) : checkTypeCall "bytearray" ⟨[a], []⟩ = pure () := by kernel_rfl
theorem ba_newCall_0 : checkBuiltinCall "bytearray.__new__" ⟨[.type "bytearray"], []⟩ = pure () := by kernel_rfl
theorem ba_newCall_1 (a : Value) : checkBuiltinCall "bytearray.__new__" ⟨[.type "bytearray", a], []⟩ = pure () := by kernel_rfl
theorem ba_entry_new : entryFor table "bytearray.__new__" = some Builtin.«list.__new__» := entryFor_alias (id' := "list.__new__") (by kernel_rfl) rfl (by decide +kernel) (by kernel_rfl)
theorem ba_plain_new : plainId "bytearray.__new__" = true := by decide +kernel
theorem ba_entry_init : entryFor table "bytearray.__init__" = some Builtin.«bytearray.__init__» := entryFor_of_tree (by kernel_rfl)
theorem ba_release : typeLookup (.type "bytearray") "__release_buffer__" = pure (some (.builtin "bytearray.__release_buffer__")) := by rw [typeLookup_type, builtinLookup_eq_fast]; kernel_rfl
section
variable {prog : Program} {w : World} {A : Around} {E : Value → Shared → Prop} {s : Shared}
theorem code_ba_new {as : List Value} (hc : checkBuiltinCall "bytearray.__new__" ⟨.type "bytearray" :: as, []⟩ = pure ()) {Q₁ : Value → Shared → Prop}
    (h : Q₁ (.ref s.heap.objs.size) { s with heap := s.heap.push (baObj #[]) }) :
    codeAny (model prog w) A (.call (.builtin "bytearray.__new__") ⟨.type "bytearray" :: as, []⟩) (wants Q₁ E) s := by
  refine codeAny_of_tree ?_
  show wpAny _ A.in1 (do checkBuiltinCall "bytearray.__new__" ⟨.type "bytearray" :: as, []⟩; again (.builtin "bytearray.__new__" ⟨.type "bytearray" :: as, []⟩)) _ _ s
  refine wpAny_bind (wpAny_of_eq hc (wpAny_pure ⟨plainId_quiet ba_plain_new _, codeAny_builtin_stack ba_entry_new rfl fun p st => ?_⟩))
  rw [Around.under_plainId ba_plain_new _]
  have hsub := ba_sub
  have hown := owner_ba_new
  obtain ⟨hp, g, d, tk, os⟩ := s
  simp only [hown]
  wp_walk
  exact h
theorem ba_own {D : Addr} {b : Array UInt8} (hD : s.heap.get? D = some (baObj b)) {M : Model} {Q : Bool → Shared → Prop} (h : Q false s) : wpAny M A (Builtin.Bytes.ownRelease (.ref D)) Q E s := by
  have hT : s.TypeIs (.ref D) "bytearray" := ⟨_, hD, rfl⟩
  unfold Builtin.Bytes.ownRelease Builtin.Bytes.slotIsOwn
  refine wpAny_bind (wpAny_bind (wpAny_specialOf hT ba_release ?_))
  dsimp only
  have e1 : ("bytearray.__release_buffer__".endsWith ("." ++ "__release_buffer__")) = true := by decide +kernel
  have e2 : "bytearray.__release_buffer__".dropRight ("__release_buffer__".length + 1) = "bytearray" := by decide +kernel
  rw [e1, e2]
  refine wpAny_isInstance hT ba_sub ?_
  exact wpAny_pure h
end

theorem ba_bind_0 : Builtin.Bytes.bindOptional "bytearray.__init__" "bytearray" ["source", "encoding", "errors"] [] [] = pure [none, none, none] := by kernel_rfl
theorem ba_bind_1 (v : Value) : Builtin.Bytes.bindOptional "bytearray.__init__" "bytearray" ["source", "encoding", "errors"] [v] [] = pure [some v, none, none] := by kernel_rfl
section
variable {prog : Program} {w : World} {A : Around} {E : Value → Shared → Prop} {s : Shared}
theorem ba_write {M : Model} {D : Addr} {b : Array UInt8} {f : Array UInt8 → Array UInt8} (hD : s.heap.get? D = some (baObj b)) (hf : (f b).size ≤ sizeLine) {Q : Unit → Shared → Prop}
    (h : ∀ h', h'.get? D = some (baObj (f b)) → Heap.SameBut D s.heap h' → Q () { s with heap := h' }) : wpAny M A (Builtin.Bytes.write (.ref D) f) Q E s := by
  unfold Builtin.Bytes.write updateBytearray
  refine wpAny_bind (wpAny_load hD ?_)
  dsimp only
  refine wpAny_bind (wpAny_update hD ?_)
  have h2 := Heap.get?_update_self (Obj.mapBytearray f) hD rfl
  refine wpAny_lookBehind h2 ?_ (h _ h2 (Heap.SameBut.update ..))
  show (if _ then _ else _) = _
  rw [if_neg (Nat.not_lt.mpr hf)]
theorem ba_exp {M : Model} {D : Addr} {b : Array UInt8} (hD : s.heap.get? D = some (baObj b)) {Q : Bool → Shared → Prop} (h : Q false s) :
    wpS M A (Builtin.Bytes.exported (.ref D) <||> do return (← Builtin.Bytes.exportsOf (.ref D)) > 0) Q E s := by
  show wpS M A (Builtin.Bytes.exported (.ref D) >>= fun b => match b with | true => _ | false => _) Q E s
  refine wpS_bind (wpS_exported ?_)
  dsimp only
  refine wpS_any (wpAny_bind ?_)
  unfold Builtin.Bytes.exportsOf
  refine wpAny_bind (wpAny_load hD ?_)
  exact wpAny_pure (wpAny_pure h)
theorem ba_init_0 {D : Addr} (hD : s.heap.get? D = some (baObj #[])) {R : Fin → Shared → Prop}
    (h : ∀ h', h'.get? D = some (baObj #[]) → Heap.SameBut D s.heap h' → R (.done (.ret .none)) { s with heap := h' }) :
    wpS (model prog w) A (Builtin.«bytearray.__init__» ⟨[.ref D], []⟩) R E s := by
  unfold Builtin.«bytearray.__init__»
  refine wpS_first (ba_own hD ?_)
  refine wpS_first (wpAny_of_eq ba_bind_0 ?_)
  refine wpS_first (wpAny_pure ?_)
  refine wpS_first (wpAny_pure ?_)
  refine wpS_bind (ba_exp hD ?_)
  refine wpS_any (wpAny_bind (ba_write hD (by show 0 ≤ _; exact Nat.zero_le _) fun h' h1 h2 => ?_))
  exact fun _ _ _ => h h' h1 h2
theorem ba_init_one {D l : Addr} {k : Int} {t : Tok} (hD : s.heap.get? D = some (baObj #[])) (hl : s.heap.IsList l #[.int k t]) (hne : l ≠ D) (h0 : 0 ≤ k) (h1 : k < 256) {R : Fin → Shared → Prop}
    (h : ∀ h', h'.get? D = some (baObj #[k.toNat.toUInt8]) → Heap.SameBut D s.heap h' → R (.done (.ret .none)) { s with heap := h' }) :
    wpS (model prog w) A (Builtin.«bytearray.__init__» ⟨[.ref D, .ref l], []⟩) R E s := by
  unfold Builtin.«bytearray.__init__»
  refine wpS_first (ba_own hD ?_)
  refine wpS_first (wpAny_of_eq (ba_bind_1 _) ?_)
  refine wpS_first (wpAny_pure ?_)
  refine wpS_first (wpAny_pure ?_)
  refine wpS_bind (ba_exp hD ?_)
  refine wpS_any (wpAny_bind (ba_write hD (by show 0 ≤ _; exact Nat.zero_le _) fun h' e1 e2 => ?_))
  have hl' : h'.IsList l #[.int k t] := hl.extBut e2.extBut hne
  have hT : ({ s with heap := h' } : Shared).TypeIs (.ref l) "list" := Heap.IsList.typeIs (s := { s with heap := h' }) hl'
  obtain ⟨ol, hol, hoc, nl, hod⟩ := id hl'
  refine wpAny_bind (wpAny_bind (m := load l) (wpAny_load hol ?_))
  rw [hod]
  refine wpAny_pure ?_
  refine bm_if_false rfl ?_
  refine wpAny_bind (wpAny_of_eq (a := ()) rfl ?_)
  refine wpAny_bind (wpAny_specialOf hT F.bm_no_index ?_)
  refine bm_if_false rfl ?_
  refine wpAny_bind ?_
  unfold Builtin.Bytes.buffer?
  refine wpAny_bind (wpAny_specialOf hT F.bm_no_buffer ?_)
  refine wpAny_bind (wpAny_specialOf hT F.bm_no_buffer ?_)
  refine wpAny_pure ?_
  refine wpAny_bind (wpAny_typeOf hT ?_)
  refine bm_if_true (by decide) ?_
  refine wpAny_bind (wpAny_seqItems hol hod ?_)
  dsimp only
  have hg : (decide (0 ≤ k) && decide (k < 256)) = true := by simp [h0, h1]
  simp only [List.takeWhile, hg, List.length_cons, List.length_nil, List.filterMap_cons, List.filterMap_nil]
  refine wpAny_bind (wpAny_rule (wpAny_bind (ba_write e1 (by show 1 ≤ _; rw [sizeLine_eq]; decide) fun h'' e3 e4 => ?_)))
  exact fun _ _ _ => h h'' e3 (e2.trans e4)
end

section
variable {M : Model} {A : Around} {E : Value → Shared → Prop} {s : Shared} {α : Type}
theorem wpS_if_false {c : Bool} {a b : Sem α} {Q : α → Shared → Prop} (hc : c = false) (h : wpS M A b Q E s) : wpS M A (if c = true then a else b) Q E s := by
  subst hc; exact h
theorem wpS_if_true {c : Bool} {a b : Sem α} {Q : α → Shared → Prop} (hc : c = true) (h : wpS M A a Q E s) : wpS M A (if c = true then a else b) Q E s := by
  subst hc; exact h
end
section
variable {prog : Program} {w : World} {A : Around} {E : Value → Shared → Prop} {s : Shared} {R : Result → Shared → Prop}
theorem dirty_of {id : String} (h : dirty (.builtin id ⟨[], []⟩) = false) (args : Args) : dirty (.builtin id args) = false := h
theorem codeS_builtin {id : String} {args : Args} {b : Builtin} (hd : dirty (.builtin id args) = false) (hb : entryFor table id = some b)
    (h : wpS (model prog w) (A.under (.builtin id args)) (b args)
      (fun fin s' => match fin with | .done f => R (.ok f) s' | .again c' => c'.quiet = true ∧ codeS (model prog w) A c' R s') (fun e s' => R (.error e) s') s) : codeS (model prog w) A (.builtin id args) R s := by
  refine codeS_of_tree hd ?_
  show wpS _ _ (match entryFor table id with | some b => b args | none => unsupported ((withoutEnding? id "#data").getD id)) _ _ s
  rw [hb]; exact h
theorem codeS_call_builtin {id : String} {args : Args} {b : Builtin} (hd : dirty (.builtin id args) = false) (hq : plainId id = true) (hb : entryFor table id = some b)
    (h : wpAny (model prog w) A.in1 (checkBuiltinCall id args) (fun _ s₁ => wpS (model prog w) A.in1 (b args)
      (fun fin s' => match fin with | .done f => R (.ok f) s' | .again c' => c'.quiet = true ∧ codeS (model prog w) A c' R s') (fun e s' => R (.error e) s') s₁)
      (fun e s' => R (.error e) s') s) : codeS (model prog w) A (.call (.builtin id) args) R s := by
  refine codeS_of_tree rfl ?_
  show wpS _ A.in1 (do checkBuiltinCall id args; again (.builtin id args)) _ _ s
  refine wpS_any (wpAny_bind (wpAny_mono h (fun _ s₁ h₁ => wpAny_pure (And.intro (plainId_quiet hq args) (codeS_builtin hd hb ?_))) fun _ _ h' => h'))
  rw [Around.under_plainId hq args]; exact h₁
theorem wpS_callSpecial?_slot {self : Value} {T : String} {name : Str} {id : String} {args : List Value} {kw : List (Str × Value)} {Q : Option Value → Shared → Prop} (hT : s.TypeIs self T) (h : Slot T name id)
    (hc : wpS (model prog w) A (call (.builtin id) (self :: args) kw) (fun v => Q (some v)) E s) : wpS (model prog w) A (callSpecial? self name args kw) Q E s := by
  simp only [callSpecial?]
  refine wpS_first (wpAny_specialOf hT h.lookup ?_)
  simp only [h.bind]
  exact wpS_holding (wpS_first (wpAny_pure (wpS_bind (wpS_mono hc (fun v s' h' => wpS_pure h') fun _ _ h' => h'))))
theorem ba_call {args : List Value} (hct : checkTypeCall "bytearray" ⟨args, []⟩ = pure ()) (hcn : checkBuiltinCall "bytearray.__new__" ⟨.type "bytearray" :: args, []⟩ = pure ()) (hok : ∀ D, argsOk "bytearray.__init__" ⟨.ref D :: args, []⟩)
    {Q : Value → Shared → Prop}
    (h : ∀ R : Fin → Shared → Prop, (∀ s₁, Q (.ref s.heap.objs.size) s₁ → R (.done (.ret .none)) s₁) →
      wpS (model prog w) A.in1.in1 (Builtin.«bytearray.__init__» ⟨.ref s.heap.objs.size :: args, []⟩) R E { s with heap := s.heap.push (baObj #[]) }) :
    wpS (model prog w) A (call (.type "bytearray") args) Q E s := by
  refine wpS_call (codeS_of_tree rfl ?_)
  show wpS _ _ (callAny (.type "bytearray") _) _ _ _
  refine wpS_pure ⟨Code.quiet_builtin _ (by decide +kernel), codeS_builtin (dirty_of (by decide +kernel) _) F.entry_type_call ?_⟩
  rw [Around.under_plain (weight_type_call_type "bytearray" args []) rfl]
  unfold Builtin.«type.__call__»
  dsimp only
  refine wpS_if_false ba_called.notType ?_
  refine wpS_if_false ba_called.canCreate ?_
  refine wpS_first (wpAny_of_eq hct ?_)
  refine wpS_first (wpAny_of_eq ba_mro ?_)
  refine wpS_if_false rfl ?_
  refine wpS_first (wpAny_of_eq ba_called.made ?_)
  refine wpS_first (wpAny_pure ?_)
  refine wpS_first (wpAny_holding (wpAny_call (codeAny_mono (code_ba_new (E := E) (Q₁ := fun v s₁ => v = .ref s.heap.objs.size ∧ s₁ = { s with heap := s.heap.push (baObj #[]) }) hcn ⟨rfl, rfl⟩) fun r s₁ hr => ?_)))
  cases r with
  | error e => exact hr
  | ok fl =>
    cases fl with
    | ret obj =>
      obtain ⟨rfl, rfl⟩ := hr
      have hD : (s.heap.push (baObj #[])).get? s.heap.objs.size = some (baObj #[]) := Heap.get?_push_size _ rfl
      have hT : ({ s with heap := s.heap.push (baObj #[]) } : Shared).TypeIs (.ref s.heap.objs.size) "bytearray" := ⟨_, hD, rfl⟩
      refine wpS_first (wpAny_isInstance hT ba_sub ?_)
      refine wpS_if_false rfl ?_
      refine wpS_bind (wpS_holding (wpS_callSpecial?_slot hT ba_init (wpS_call (codeS_call_builtin (dirty_of (by decide +kernel) _) ba_init.plain ba_entry_init (ba_init.check _ _ _ _ _ _ _ _ hT (hok _) (h _ fun s₁ hq => ?_))))))
      dsimp only
      refine wpS_if_false rfl ?_
      exact wpS_pure hq
    | _ => exact hr.elim
theorem ba_call_0 {Q : Value → Shared → Prop}
    (h : ∀ h', h'.get? s.heap.objs.size = some (baObj #[]) → (∀ b o, s.heap.get? b = some o → h'.get? b = some o) → Q (.ref s.heap.objs.size) { s with heap := h' }) :
    wpS (model prog w) A (call (.type "bytearray") []) Q E s := by
  refine ba_call ba_typeCall_0 ba_newCall_0 (fun D => by kernel_rfl) fun R hR => ba_init_0 (Heap.get?_push_size _ rfl) fun h' e1 e2 => hR _ (h h' e1 fun b o e => ?_)
  exact (e2.2 b (Nat.ne_of_lt (Heap.lt_size e))).trans (Heap.get?_push_of_some _ e)
theorem ba_call_1 {l : Addr} {k : Int} {t : Tok} (hl : s.heap.IsList l #[.int k t]) (h0 : 0 ≤ k) (h1 : k < 256) {Q : Value → Shared → Prop}
    (h : ∀ h', h'.get? s.heap.objs.size = some (baObj #[k.toNat.toUInt8]) → (∀ b o, s.heap.get? b = some o → h'.get? b = some o) → Q (.ref s.heap.objs.size) { s with heap := h' }) :
    wpS (model prog w) A (call (.type "bytearray") [.ref l]) Q E s := by
  have hlt : l < s.heap.objs.size := by obtain ⟨o, ho, _⟩ := hl; exact Heap.lt_size ho
  refine ba_call (ba_typeCall_1 _) (ba_newCall_1 _) (fun D => by kernel_rfl) fun R hR => ba_init_one (Heap.get?_push_size _ rfl) (hl.push _) (Nat.ne_of_lt hlt) h0 h1 fun h' e1 e2 => hR _ (h h' e1 fun b o e => ?_)
  exact (e2.2 b (Nat.ne_of_lt (Heap.lt_size e))).trans (Heap.get?_push_of_some _ e)
end

theorem ba_iadd_slot : Slot "bytearray" (dunderI "add") "bytearray.__iadd__" :=
  .of (owner := "bytearray") (n := "__iadd__") (by rw [typeLookup_type, builtinLookup_eq_fast]; kernel_rfl) (by decide +kernel) (by decide +kernel) (by decide +kernel)
    (by first | exact .inl (by decide +kernel) | exact .inr (by decide +kernel)) (by rw [isSubtype_type]; kernel_rfl)
theorem ba_entry_iadd : entryFor table "bytearray.__iadd__" = some Builtin.«bytearray.__iadd__» := entryFor_of_tree (by kernel_rfl)
theorem ba_look_add : typeLookup (.type "bytearray") (dunder "add") = pure (some (.builtin "bytearray.__add__")) := by rw [typeLookup_type, builtinLookup_eq_fast]; kernel_rfl
theorem ba_look_radd : typeLookup (.type "bytearray") (dunderR "add") = pure none := by rw [typeLookup_type, builtinLookup_eq_fast]; kernel_rfl
theorem ba_noFill : fillsNumberSlot (.type "bytearray") "add" = pure false := PySem.fillsNumberSlot_seq (r := none) ba_look_add (by decide +kernel) ba_look_radd rfl
theorem ba_noInplace : fillsInplaceSlot (.type "bytearray") "add" (Operator.Add == .Add) = pure false := by
  unfold fillsInplaceSlot
  show (typeLookup (.type "bytearray") (dunderI "add") >>= fun fi => pure (fi.isSome && !isSeqSlot fi)) = pure false
  rw [ba_iadd_slot.lookup]
  kernel_rfl
theorem ba_seq : seqSlot? (.type "bytearray") (dunderI "add") = pure (some (.builtin "bytearray.__iadd__")) := PySem.seqSlot_of ba_iadd_slot.lookup (by decide +kernel)
theorem ba_take {c : Array UInt8} {u : Tok} : Builtin.Bytes.takeBufferQuiet? "bytearray.__iadd__" (.bytes c u) 0 = pure (some (c, none)) := by
  unfold Builtin.Bytes.takeBufferQuiet? Builtin.Bytes.takeBuffer?
  rw [KBy.special_eq KBy.look_buffer, KBy.own_buffer, show ((0 : Int) == Builtin.Bytes.fullReadOnly) = false from by decide, KBy.buffer_eq]
  kernel_rfl
section
variable {prog : Program} {w : World} {A : Around} {E : Value → Shared → Prop} {s : Shared}
theorem ba_payload {M : Model} {D : Addr} {b : Array UInt8} (hD : s.heap.get? D = some (baObj b)) {Q : Array UInt8 → Shared → Prop} (h : Q b s) : wpAny M A (Builtin.Bytes.payload (.ref D)) Q E s := by
  unfold Builtin.Bytes.payload Builtin.Bytes.payload?
  refine wpAny_bind (wpAny_bind (wpAny_load hD ?_))
  exact wpAny_pure (wpAny_pure h)
theorem ba_iadd {D : Addr} {b c : Array UInt8} {u : Tok} (hD : s.heap.get? D = some (baObj b)) (hz : b.size + c.size ≤ 16777216) {R : Fin → Shared → Prop}
    (h : ∀ h', h'.get? D = some (baObj (b ++ c)) → Heap.SameBut D s.heap h' → R (.done (.ret (.ref D))) { s with heap := h' }) :
    wpS (model prog w) A (Builtin.«bytearray.__iadd__» ⟨[.ref D, .bytes c u], []⟩) R E s := by
  have fin : wpS (model prog w) A (do
      if Builtin.Bytes.tooLong ((← Builtin.Bytes.payload (.ref D)).size + c.size) then unsupported "bytearray.__iadd__:memory"
      Builtin.Bytes.write (.ref D) (· ++ c)
      ret (.ref D)) R E s := by
    refine wpS_any (wpAny_bind (ba_payload hD ?_))
    refine bm_if_false (KBy.tooLong_not hz) ?_
    refine wpAny_bind (ba_write hD (by show (b ++ c).size ≤ _; rw [Array.size_append, sizeLine_eq]; exact hz) fun h' e1 e2 => ?_)
    exact wpAny_pure (h h' e1 e2)
  unfold Builtin.«bytearray.__iadd__»
  refine wpS_first (wpAny_of_eq (a := (.ref D, [.bytes c u])) rfl ?_)
  dsimp only
  refine wpS_first (wpAny_of_eq ba_take ?_)
  dsimp only
  unfold Builtin.Bytes.thenGiveBack
  dsimp only
  by_cases hc : c.isEmpty = true
  · refine wpS_if_false (by simp [hc]) ?_
    exact fin
  · refine wpS_if_true (by simp [hc]) ?_
    refine wpS_if_false rfl ?_
    refine wpS_bind ?_
    unfold Builtin.Bytes.checkResize
    refine wpS_bind (ba_exp hD ?_)
    refine wpS_if_false rfl ?_
    exact wpS_pure fin
theorem ba_inplace {D : Addr} {b c : Array UInt8} {u : Tok} (hD : s.heap.get? D = some (baObj b)) (hz : b.size + c.size ≤ 16777216) {Q : Value → Shared → Prop}
    (h : ∀ h', h'.get? D = some (baObj (b ++ c)) → Heap.SameBut D s.heap h' → Q (.ref D) { s with heap := h' }) :
    wpS (model prog w) A (inplaceOp .Add (.ref D) (.bytes c u)) Q E s := by
  have hT : s.TypeIs (.ref D) "bytearray" := ⟨_, hD, rfl⟩
  have hU : s.TypeIs (.bytes c u) "bytes" := typeIs_bytes _ _ _
  unfold inplaceOp
  refine wpS_holding ?_
  refine wpS_first (wpAny_typeOf hT ?_)
  refine wpS_first (wpAny_of_eq ba_noInplace ?_)
  refine wpS_if_false rfl ?_
  refine wpS_first ?_
  unfold binaryOp1
  refine wpAny_bind (wpAny_typeOf hT (wpAny_bind (wpAny_typeOf hU (wpAny_bind (wpAny_of_eq ba_noFill ?_)))))
  refine bm_if_false (by decide +kernel) ?_
  refine wpAny_bind (wpAny_of_eq KBy.noFill_bytes_add ?_)
  simp only [pure_bind, Bool.false_and, Bool.and_false, Bool.false_eq_true, if_false]
  refine wpAny_pure ?_
  dsimp only
  refine wpS_first (wpAny_of_eq ba_seq ?_)
  refine wpS_first (wpAny_rule ?_)
  refine wpS_call (codeS_call_builtin (dirty_of (by decide +kernel) _) ba_iadd_slot.plain ba_entry_iadd (ba_iadd_slot.check _ _ _ _ _ _ _ _ hT (by kernel_rfl) (ba_iadd hD hz ?_)))
  exact h
theorem wpS_aug {id : Str} {npos pos : Pos} {op : Operator} {value : Expr} {env : Env} {Q : Flow → Shared → Prop}
    (h : wpAny (model prog w) A (loadName env id) (fun old s₁ => wpAny (model prog w) A (eval value env) (fun v s₂ => wpS (model prog w) A (inplaceOp op old v)
      (fun new s₃ => wpAny (model prog w) A (storeName env id new) (fun _ s₄ => Q .next s₄) E s₃) E s₂) E s₁) E s) :
    wpS (model prog w) A (exec (.AugAssign (.Name id npos) op value pos) env) Q E s := by
  rw [arm_exec_AugAssign]
  refine wpS_first (wpAny_standAt (wpS_first (wpAny_mono h (fun old s₁ h₁ => ?_) fun _ _ e => e)))
  refine wpS_first (wpAny_holding (wpAny_mono h₁ (fun v s₂ h₂ => ?_) fun _ _ e => e))
  refine wpS_first (wpAny_standAt ?_)
  refine wpS_bind ?_
  unfold operate
  refine wpS_bind (wpS_holding (wpS_mono h₂ (fun new s₃ h₃ => ?_) fun _ _ e => e))
  refine wpS_first (wpAny_release (wpS_pure ?_))
  refine wpS_first (wpAny_standAt ?_)
  exact wpS_any (wpAny_bind (wpAny_bindName (wpAny_mono h₃ (fun _ _ q => wpAny_pure q) fun _ _ e => e)))
end

section
variable {prog : Program} {w : World} {A : Around} {E : Value → Shared → Prop} {s : Shared} {env : Env}
theorem wpS_execs {st : Stmt} {rest : List Stmt} {Q : Flow → Shared → Prop}
    (h : wpS (model prog w) A (exec st env) (fun f s' => match f with | .next => wpS (model prog w) A (execs rest env) Q E s' | f => Q f s') E s) : wpS (model prog w) A (execs (st :: rest) env) Q E s := by
  rw [execs_cons]
  refine wpS_bind (wpS_mono h (fun f s' h' => ?_) fun _ _ e => e)
  cases f <;> first | exact h' | exact wpS_pure h'
/-- a statement that is plain, and the rest -/
theorem wpS_plain {st : Stmt} {rest : List Stmt} {Q : Flow → Shared → Prop}
    (h : wpAny (model prog w) A (exec st env) (fun f s' => match f with | .next => wpS (model prog w) A (execs rest env) Q E s' | f => Q f s') E s) : wpS (model prog w) A (execs (st :: rest) env) Q E s := wpS_execs (wpS_any h)
theorem wpS_assign {x : Str} {p pos : Pos} {value : Expr} {Q : Flow → Shared → Prop}
    (h : wpS (model prog w) A (eval value env) (fun v s₁ => wpAny (model prog w) A (storeName env x v) (fun _ s₂ => Q .next s₂) E s₁) E s) (hs : swapsWith value (some (.Name x p)) pos.line env = pure false := by rfl) :
    wpS (model prog w) A (exec (.Assign [.Name x p] value pos) env) Q E s := by
  rw [exec_Assign_Name env x p value pos hs]
  refine wpS_first (wpAny_standAt (wpS_bind (wpS_mono h (fun v s₁ h₁ => ?_) fun _ _ e => e)))
  refine wpS_first (wpAny_standAt ?_)
  exact wpS_any (wpAny_bind (wpAny_bindName (wpAny_mono h₁ (fun _ _ q => wpAny_pure q) fun _ _ e => e)))
theorem wpS_return {e : Expr} {pos : Pos} {Q : Flow → Shared → Prop} (h : wpS (model prog w) A (eval e env) (fun v s' => Q (.ret v) s') E s) : wpS (model prog w) A (exec (.Return (some e) pos) env) Q E s := by
  rw [exec_Return_some]
  exact wpS_first (wpAny_standAt (wpS_bind (wpS_mono h (fun _ _ q => wpS_pure q) fun _ _ e => e)))
theorem wpS_If {test : Expr} {body orelse : List Stmt} {pos : Pos} {Q : Flow → Shared → Prop}
    (h : wpS (model prog w) A (isTrue test env (eval test env)) (fun b s₂ => if b then wpS (model prog w) A (execs body env) Q E s₂ else wpS (model prog w) A (execs orelse env) Q E s₂) E s) :
    wpS (model prog w) A (exec (.If test body orelse pos) env) Q E s := by
  rw [arm_exec_If]
  refine wpS_first (wpAny_standAt (wpS_bind (wpS_mono h (fun b s₂ h₂ => ?_) fun _ _ e => e)))
  cases b <;> exact h₂
theorem wpS_callWith {P : Heap → Prop} {pos : Pos} {f : Value} {first : List Value} {args : List (Bool × Sem Value)} {keywords : List (Option Str × Sem Value)} {Q : Value → Shared → Prop} (hplain : (args.any (·.1) || keywords.any (·.1.isNone)) = false)
    (hk : ∀ h, P h → ∃ k, (k = Keeper.frame ∨ k = Keeper.machine ∨ k = Keeper.boundFrame) ∧ Looks (model prog w) h (keeperOf f) k)
    (h : wpAny (model prog w) A (evalArgs f true args keywords) (fun a s₁ => P s₁.heap ∧ wpS (model prog w) A (call f (first ++ a.pos) a.kw) Q E s₁) E s) : wpS (model prog w) A (callWith pos f first args keywords) Q E s := by
  unfold callWith
  refine wpS_first (wpAny_holding (wpAny_mono h (fun a s₁ h₁ => ?_) fun _ _ x => x))
  refine wpS_first (wpAny_standAt ?_)
  obtain ⟨k, hk', L⟩ := hk _ h₁.1
  simp only [hplain]
  refine wpS_first (L.here ?_)
  have tail : ∀ {t : Sem Value}, wpS (model prog w) A t Q E s₁ → wpS (model prog w) A (t >>= fun r => holding [r] point >>= fun _ => pure r) Q E s₁ :=
    fun ht => wpS_bind (wpS_mono ht (fun r s₂ hr => wpS_any (wpAny_bind (wpAny_holding (wpAny_point (wpAny_pure hr))))) fun _ _ x => x)
  have marked (mk : Value) : wpS (model prog w) A (callMarked mk f (first ++ a.pos) a.kw) Q E s₁ := by
    unfold callMarked
    exact fun Γ p hΓ h1 h2 => by rw [Sem.wp_keep]; exact h₁.2 Γ p hΓ h1 h2
  rcases hk' with rfl | rfl | rfl <;> dsimp only <;> first | exact tail h₁.2 | (split <;> first | exact tail h₁.2 | exact tail (marked _))
theorem wpS_Call {id : Str} {p pos : Pos} {args : List Expr} {Q : Value → Shared → Prop}
    (h : wpAny (model prog w) A (eval (.Name id p) env) (fun f s₁ => wpS (model prog w) A (callWith pos f [] (backTo pos (starEach args env)) []) Q E s₁) E s) :
    wpS (model prog w) A (eval (.Call (.Name id p) args [] pos) env) Q E s := by
  show wpS (model prog w) A (do callWith pos (← eval (.Name id p) env) [] (backTo pos (starEach args env)) (backToKw pos (keywordEach [] env))) Q E s
  exact wpS_first h
/-- a call of a def by its name -/
theorem wpS_callK {K : Frag} {pos : Pos} {f : Value} {e : Expr} {rest : List Expr} {Q : Value → Shared → Prop} (hk : keepIn K f = true)
    (h : wpAny (model prog w) A (spliced (backTo pos (starEach (e :: rest) env))) (fun vs s₁ => K.In s₁.heap ∧ wpS (model prog w) A (call f vs) Q E s₁) E s)
    (he : starEach (e :: rest) env = (false, eval e env) :: starEach rest env := by rfl) (hplain : (backTo pos (starEach rest env)).any (·.1) = false := by rfl) :
    wpS (model prog w) A (callWith pos f [] (backTo pos (starEach (e :: rest) env)) []) Q E s := by
  rw [he] at h ⊢
  exact wpS_callWith (by show ((false || (backTo pos (starEach rest env)).any (·.1)) || false) = false; rw [hplain]; rfl) (keeps_K hk) (evalArgs_plain h)
/-- a call of bytearray -/
theorem wpS_callT0 {T : String} {pos : Pos} {Q : Value → Shared → Prop} (h : wpS (model prog w) A (call (.type T) []) Q E s) : wpS (model prog w) A (callWith pos (.type T) [] (backTo pos (starEach [] env)) []) Q E s :=
  wpS_callWith (P := fun _ => True) rfl (fun _ _ => ⟨.machine, .inr (.inl rfl), Looks.of_pure rfl⟩) (wpAny_of_eq (a := (⟨[], []⟩ : Args)) rfl (by exact ⟨trivial, h⟩))
theorem wpS_callT1 {T : String} {pos : Pos} {e : Expr} {Q : Value → Shared → Prop} (h : wpAny (model prog w) A (spliced (backTo pos (starEach [e] env))) (fun vs s₁ => wpS (model prog w) A (call (.type T) vs) Q E s₁) E s)
    (he : starEach [e] env = [(false, eval e env)] := by rfl) :
    wpS (model prog w) A (callWith pos (.type T) [] (backTo pos (starEach [e] env)) []) Q E s := by
  rw [he] at h ⊢
  exact wpS_callWith (P := fun _ => True) rfl (fun _ _ => ⟨.machine, .inr (.inl rfl), Looks.of_pure rfl⟩) (evalArgs_plain (wpAny_mono h (fun _ _ q => ⟨trivial, q⟩) fun _ _ e => e))
theorem wpS_runOwn {c : Code} {Q : Flow → Shared → Prop} (hc : codeS (model prog w) A c (fun r s' => match r with | .ok f => Q f s' | .error e => cameBackBy (model prog w) A env E e s') s) : wpS (model prog w) A (runOwn c env) Q E s := by
  unfold runOwn
  exact wpS_onRaise (wpS_run hc)
theorem wpS_noted {α : Type} {m : Sem α} {Q : α → Shared → Prop} (h : wpS (model prog w) A m Q (notedBy (model prog w) A env E) s) : wpS (model prog w) A (m.onRaise fun x => do noteFrame x env; theTreesLotGoes x) Q E s :=
  wpS_onRaise (wpS_mono h (fun _ _ q => q) fun _ _ hx => wpAny_bind (wpAny_mono hx (fun _ _ e => wpAny_theTreesLotGoes e) fun _ _ e => e))
theorem codeS_for {R : Result → Shared → Prop} {target : Expr} {it : Value} {body : List Stmt} (I : Nat → Shared → Prop)
    (turn : ∀ n s, I n s → wpAny (model prog w) A (pyNext it) (fun r s₁ => match r with
      | none => R (.ok .next) s₁
      | some v => wpAny (model prog w) A (assign target env v) (fun _ s₂ => wpS (model prog w) A (execs body env) (fun f s₃ => match f with
          | .next | .cont => ∃ m, m < n ∧ I m s₃
          | .brk => R (.ok .next) s₃
          | .ret v => R (.ok (.ret v)) s₃) (notedBy (model prog w) A env fun e s' => R (.error e) s') s₂) (notedBy (model prog w) A env fun e s' => R (.error e) s') s₁) (notedBy (model prog w) A env fun e s' => R (.error e) s') s)
    (n : Nat) (h : I n s) (ht : ∀ v, letOwnedTupleGo target it v = pure () := by intro _; rfl) : codeS (model prog w) A (.forLoop target it body [] env) R s := by
  induction n using Nat.strongRecOn generalizing s with
  | ind n ih =>
    refine codeS_of_tree rfl ?_
    show wpS _ A ((forTurn target it body [] env).onRaise (fun x => do noteFrame x env; theTreesLotGoes x)) _ _ s
    refine wpS_noted ?_
    simp only [forTurn]
    refine wpS_first (wpAny_standAt (wpS_first (wpAny_onRaise (wpAny_mono (turn n s h) (fun r s₁ h₁ => ?_) fun _ _ h' => wpAny_standAt h'))))
    cases r with
    | none => exact wpS_pure ⟨rfl, codeS_any (codeAny_block (wpAny_execs_nil h₁))⟩
    | some v =>
      refine wpS_first (wpAny_of_eq (ht v) ?_)
      refine wpS_first (wpAny_mono h₁ (fun _ s₂ h₂ => wpS_bind (wpS_mono h₂ (fun f s₃ h₃ => ?_) fun _ _ h' => h')) fun _ _ h' => h')
      cases f with
      | next => obtain ⟨m, hm, hI⟩ := h₃; exact wpS_pure ⟨rfl, ih m hm hI⟩
      | cont => obtain ⟨m, hm, hI⟩ := h₃; exact wpS_pure ⟨rfl, ih m hm hI⟩
      | brk => exact wpS_pure h₃
      | ret v => exact wpS_pure h₃
/-- a range at a loop's head -/
noncomputable def RangeHead (g : Heap) (L : Addr) (m : Str → Option Value) (news : List (Addr × Obj)) (n : Nat) (a₀ c₀ : Int) (s : Shared) (xv : Value) (s₁ : Shared) : Prop :=
  ∃ r b₀ t₀ u₀ v₀, xv = .ref r ∧ IsRange s₁.heap r a₀ b₀ c₀ t₀ u₀ v₀ ∧ Builtin.Range.small a₀ b₀ c₀ = true ∧ Builtin.Range.rangeSize a₀ b₀ c₀ = (n : Int) ∧
      Fr g L s₁.heap m ∧ News g L s₁.heap news ∧ ∃ h' tk', s₁ = { s with heap := h', toks := tk' }
theorem RangeHead.mk {g : Heap} {L : Addr} {m : Str → Option Value} {news : List (Addr × Obj)} {n : Nat} {a₀ b₀ c₀ : Int} {s s₁ : Shared} {r : Addr} {t₀ u₀ v₀ : Tok} (hr : IsRange s₁.heap r a₀ b₀ c₀ t₀ u₀ v₀) (F : Fr g L s₁.heap m) (N : News g L s₁.heap news)
    (o : ∃ h' tk', s₁ = { s with heap := h', toks := tk' }) (hs : Builtin.Range.small a₀ b₀ c₀ = true) (hn : Builtin.Range.rangeSize a₀ b₀ c₀ = (n : Int)) : RangeHead g L m news n a₀ c₀ s (.ref r) s₁ := ⟨r, b₀, t₀, u₀, v₀, rfl, hr, hs, hn, F, N, o⟩
/-- a loop over a range, its body at clean stacks -/
theorem wpS_For {x : Str} {px pos : Pos} {iter : Expr} {body : List Stmt} {Q : Flow → Shared → Prop} {h₀ : Heap} {m₀ : Str → Option Value} {news : List (Addr × Obj)} {n : Nat} {a₀ c₀ : Int}
    (J : Nat → (Str → Option Value) → List (Addr × Obj) → Prop) (hh : A.handled = none) (hE : PassesOwn (model prog w) A env E)
    (hx : env.kindOf x = some .local) (hp : (env.scope.kind == .class || (env.scope.kind == .module && env.locals != env.globals)) = false)
    (turn : ∀ s₂ i t m₁ nx h tk I oI, i < n → (∀ p ∈ nx, p.1 ≠ I) → J i m₁ nx → Fr h₀ env.locals h (fun y => if y = x then some (.int (a₀ + (i : Int) * c₀) t) else m₁ y) → News h₀ env.locals h (nx ++ [(I, oI)]) →
      (∃ h' tk', s₂ = { s with heap := h', toks := tk' }) →
      wpS (model prog w) A (execs body env) (fun f s₃ => match f with
        | .next | .cont => ∃ h' tk' m' nx' rest, s₃ = { s₂ with heap := h', toks := tk' } ∧ Fr h₀ env.locals h' m' ∧ News h₀ env.locals h' rest ∧ (∀ p ∈ nx', p ∈ rest) ∧ (I, oI) ∈ rest ∧ (∀ p ∈ nx', p.1 ≠ I) ∧ J (i + 1) m' nx'
        | .brk => False
        | .ret v => Q (.ret v) s₃) E { s₂ with heap := h, toks := tk })
    (done : ∀ s₂ m₁ nx h tk, (∃ h' tk', s₂ = { s with heap := h', toks := tk' }) → J n m₁ nx → Fr h₀ env.locals h m₁ → News h₀ env.locals h nx → Q .next { s₂ with heap := h, toks := tk })
    (hJ0 : J 0 m₀ news) (head : wpAny (model prog w) A (eval iter env) (RangeHead h₀ env.locals m₀ news n a₀ c₀ s) E s)
    (hs : ∀ x, foldedSetIterable iter env x = pure x := by intro _; rfl) :
    wpS (model prog w) A (exec (.For (.Name x px) iter body [] pos) env) Q E s := by
  rw [exec_For]
  refine wpS_first (wpAny_standAt (wpS_first (wpAny_mono head (fun xv s₁ h₁ => ?_) fun _ _ e => e)))
  obtain ⟨r, b₀, t₀, u₀, v₀, rfl, hr, hsm, hn, F, N, hs1⟩ := h₁
  have hJ := hJ0
  refine wpS_first (wpAny_of_eq (hs _) (wpS_first (wpAny_standAt (wpS_first (wpAny_holding (wpAny_pyIter_range hr hsm ?_))))))
  rw [hn]
  generalize hI : s₁.heap.objs.size = I
  have W := Walks.range (prog := prog) (w := w) hh I a₀ c₀ n
  have hLI : env.locals ≠ I := fun e => by have := F.ns.lt; rw [e, ← hI] at this; exact Nat.lt_irrefl _ this
  have hgI : h₀.get? I = none := by rw [← hI]; exact next_is_new F
  have hnI : ∀ p ∈ news, p.1 ≠ I := fun p hp e => by have := Heap.lt_size (N p hp).1; rw [e, ← hI] at this; exact Nat.lt_irrefl _ this
  have old : ∀ b o, h₀.get? b = some o → b ≠ I := fun b o e hb => by rw [hb, hgI] at e; cases e
  refine wpS_runOwn (codeS_for (fun k s' => ∃ h' tk m' nx i, s' = { s₁ with heap := h', toks := tk } ∧ IsRangeIter h' I (a₀ + (i : Nat) * c₀) ((n : Int) - (i : Nat)) c₀ ∧ Fr h₀ env.locals h' m' ∧ News h₀ env.locals h' nx ∧ (∀ p ∈ nx, p.1 ≠ I) ∧ J i m' nx ∧ i ≤ n ∧ k = n + 1 - i) ?_ (n + 1)
    ⟨_, _, m₀, news, 0, rfl, by rw [← hI]; simpa [IsRangeIter] using Heap.get?_push_size _ rfl, F.push _, fun p hp => ⟨Heap.get?_push_of_some _ (N p hp).1, (N p hp).2⟩, hnI, hJ, Nat.zero_le _, rfl⟩)
  rintro k s' ⟨h', tk, m', nx, i, rfl, hst', F', N', hnw', hJ', hi, rfl⟩
  have next : ∀ h₁ : Heap, (∀ b o, b ∉ [I] → h'.get? b = some o → h₁.get? b = some o) → Fr h₀ env.locals h₁ m' ∧ News h₀ env.locals h₁ nx := fun h₁ hk₁ =>
    ⟨⟨F'.ns.at' fun o e => hk₁ _ o (fun q => hLI (List.mem_singleton.mp q)) e, fun b o e => hk₁ b o (fun q => old b o e (List.mem_singleton.mp q)) (F'.keep b o e), F'.above⟩, fun p hp => ⟨hk₁ _ _ (fun q => hnw' p hp (List.mem_singleton.mp q)) (N' p hp).1, (N' p hp).2⟩⟩
  by_cases hlt : i < n
  · refine W.item i _ _ _ hlt hst' fun v h₁ tk₁ hP hst₁ hk₁ => ?_
    obtain ⟨t, rfl⟩ := hP
    obtain ⟨F₁, N₁⟩ := next h₁ hk₁
    refine wpAny_assign_Name (wpAny_storeName_local hx F₁.ns (fun h₂ hn₂ hs₂ => ?_) hp)
    have F₂ := F₁.set hn₂ hs₂
    have hst₂ : IsRangeIter h₂ I (a₀ + ((i + 1 : Nat) : Nat) * c₀) ((n : Int) - ((i + 1 : Nat) : Nat)) c₀ := W.frame _ _ _ hst₁ fun b hb o e => (hs₂.2 b fun q => hLI (by rw [← q, List.mem_singleton.mp hb])).trans e
    have NI : News h₀ env.locals h₂ (nx ++ [(I, _)]) := fun p hp => by
      rcases List.mem_append.mp hp with hp | hp
      · exact N₁.set hs₂ p hp
      · rw [List.mem_singleton.mp hp]
        exact ⟨hst₂, fun e => hLI e.symm, hgI⟩
    refine wpS_mono (turn s₁ i t m' nx h₂ _ I _ hlt hnw' hJ' F₂ NI hs1) (fun f s₃ h₃ => ?_) fun _ _ e => hE _ _ e
    cases f with
    | ret v => exact h₃
    | brk => exact h₃.elim
    | cont =>
      obtain ⟨h₃', tk₃, m₂, nx₂, rest, rfl, F₃, N₃, a1, a2, a3, hJ₃⟩ := h₃
      exact ⟨n + 1 - (i + 1), by omega, h₃', tk₃, m₂, nx₂, i + 1, rfl, (N₃ _ a2).1, F₃, fun p hp => N₃ p (a1 p hp), a3, hJ₃, hlt, rfl⟩
    | next =>
      obtain ⟨h₃', tk₃, m₂, nx₂, rest, rfl, F₃, N₃, a1, a2, a3, hJ₃⟩ := h₃
      exact ⟨n + 1 - (i + 1), by omega, h₃', tk₃, m₂, nx₂, i + 1, rfl, (N₃ _ a2).1, F₃, fun p hp => N₃ p (a1 p hp), a3, hJ₃, hlt, rfl⟩
  · have hin : i = n := by omega
    subst hin
    refine W.done _ _ _ hst' fun h₁ tk₁ hk₁ => ?_
    obtain ⟨F₁, N₁⟩ := next h₁ hk₁
    exact done s₁ m' nx h₁ tk₁ hs1 hJ' F₁ N₁
end
section
variable {prog : Program} {w : World} {A : Around} {s : Shared} {base g : Heap} {outer : List Env} {news : List (Addr × Obj)} {K : Frag} {p : Program} {loose : List Str} {mean : ExcName → Option Value} {mg mb : Str → Option Value}
  {name qual : Str} {params : Arguments} {body : List Stmt} {scope : Scope} {dV kV doc pm cdv ct oc : Value} {an od : Option Addr} {osl : Array (Option Value)} {f : Addr} {vals : List Value} {binds : List (Str × Value)} {Q E : Value → Shared → Prop}
theorem enterS (B : Below A base outer g) (X : K.In g) (T : Top p loose mean mg mb g) (G : Led g s.heap news)
    (ho : K.lookup f = some ⟨oc, od, .func (fnOf name qual params body scope dV kV doc pm an cdv ct), osl⟩) (hcd : codeIn K cdv qual = true) (hroom : A.depth < recursionLimit)
    (hbind : BindsTo s (fnOf name qual params body scope dV kV doc pm an cdv ct) ⟨vals, []⟩ binds) (hloc : ∀ y ∈ binds, scope.names.lookup y.1 = some .local)
    (h : ∀ L' h₁, Fr g L' h₁ (fun y => binds.reverse.lookup y) → News g L' h₁ news →
      wpS (model prog w) (A.deeper (envOf qual scope L' f cdv)) (execs body (envOf qual scope L' f cdv))
        (fun fl s' => Q (match fl with | .ret v => v | _ => .none) s')
        (fun e s' => wpAny (model prog w) (A.deeper (envOf qual scope L' f cdv)) (leaving (envOf qual scope L' f cdv) e) (fun _ s'' => E e s'') (fun e' s'' => E e' s'') s')
        { s with heap := h₁, toks := s.toks + binds.length })
    (hco : scope.isCoroutine = false) (hgen : scope.isGenerator = false) (hk : scope.kind = .function)
    (hcell : ∀ x ∈ scope.names, x.2 ≠ .cell) : wpS (model prog w) A (call (.ref f) vals) Q E s := by
  have _ := B.stack
  refine wpS_call (codeS_call_function (fd := fnX name qual params body scope [] dV kV doc pm an cdv ct) (body := body) hroom (G.1 _ _ (X _ _ ho)) rfl hco hgen rfl (codeRec_of (X.keeps G.1) hcd) (hbind _ _ _ _ ?_))
  refine wpAny_newFunctionEnv hcell hloc (fun h₁ hns hsb => ⟨(T.nolimit.keeps G.1).fresh _ hsb, codeS_func ?_⟩) hk
  have hk₁ : ∀ b o, s.heap.get? b = some o → h₁.get? b = some o := fun b o e => hsb.extBut b o (Nat.ne_of_lt (Heap.lt_size e)) (Heap.get?_push_of_some _ e)
  exact h _ h₁ ⟨hns, fun b o e => hk₁ b o (G.1 b o e), G.2.1⟩ (fun q hq => ⟨hk₁ _ _ (G.2.2 q hq).1, Nat.ne_of_lt (Heap.lt_size (G.2.2 q hq).1), (G.2.2 q hq).2⟩)
theorem enterS1 (x : Str) {v : Value} (B : Below A base outer g) (X : K.In g) (T : Top p loose mean mg mb g) (G : Led g s.heap news)
    (ho : K.lookup f = some ⟨oc, od, .func (fnOf name qual params body scope dV kV doc pm an cdv ct), osl⟩) (hcd : codeIn K cdv qual = true) (hroom : A.depth < recursionLimit)
    (hbind : BindsTo s (fnOf name qual params body scope dV kV doc pm an cdv ct) ⟨[v], []⟩ [(x, v)]) (hloc : scope.names.lookup x = some .local)
    (hco : scope.isCoroutine = false) (hgen : scope.isGenerator = false) (hk : scope.kind = .function) (hcell : ∀ x ∈ scope.names, x.2 ≠ .cell)
    (h : ∀ L' h₁ tk, Fr g L' h₁ (fun y => if y = x then some v else none) → News g L' h₁ news →
      wpS (model prog w) (A.deeper (envOf qual scope L' f cdv)) (execs body (envOf qual scope L' f cdv))
        (fun fl s' => Q (match fl with | .ret v => v | _ => .none) s')
        (fun e s' => wpAny (model prog w) (A.deeper (envOf qual scope L' f cdv)) (leaving (envOf qual scope L' f cdv) e) (fun _ s'' => E e s'') (fun e' s'' => E e' s'') s')
        { s with heap := h₁, toks := tk }) : wpS (model prog w) A (call (.ref f) [v]) Q E s :=
  enterS B X T G ho hcd hroom hbind (fun y hy => by rw [List.mem_singleton.mp hy]; exact hloc) (fun L' h₁ F N => h L' h₁ _ (by
    have e : (fun y => List.lookup y ([(x, v)] : List (Str × Value)).reverse) = fun y => if y = x then some v else none := by
      funext y
      by_cases hy : y = x
      · subst hy; simp
      · simp [hy, beq_eq_false_iff_ne.mpr hy]
    rw [← e]; exact F) N) hco hgen hk hcell
theorem enterS2 (x x' : Str) {v v' : Value} (hne : x ≠ x') (B : Below A base outer g) (X : K.In g) (T : Top p loose mean mg mb g) (G : Led g s.heap news)
    (ho : K.lookup f = some ⟨oc, od, .func (fnOf name qual params body scope dV kV doc pm an cdv ct), osl⟩) (hcd : codeIn K cdv qual = true) (hroom : A.depth < recursionLimit)
    (hbind : BindsTo s (fnOf name qual params body scope dV kV doc pm an cdv ct) ⟨[v, v'], []⟩ [(x, v), (x', v')]) (hloc : scope.names.lookup x = some .local) (hloc' : scope.names.lookup x' = some .local)
    (hco : scope.isCoroutine = false) (hgen : scope.isGenerator = false) (hk : scope.kind = .function) (hcell : ∀ x ∈ scope.names, x.2 ≠ .cell)
    (h : ∀ L' h₁ tk, Fr g L' h₁ (fun y => if y = x then some v else if y = x' then some v' else none) → News g L' h₁ news →
      wpS (model prog w) (A.deeper (envOf qual scope L' f cdv)) (execs body (envOf qual scope L' f cdv))
        (fun fl s' => Q (match fl with | .ret v => v | _ => .none) s')
        (fun e s' => wpAny (model prog w) (A.deeper (envOf qual scope L' f cdv)) (leaving (envOf qual scope L' f cdv) e) (fun _ s'' => E e s'') (fun e' s'' => E e' s'') s')
        { s with heap := h₁, toks := tk }) : wpS (model prog w) A (call (.ref f) [v, v']) Q E s :=
  enterS B X T G ho hcd hroom hbind (fun y hy => by
    rcases List.mem_cons.mp hy with rfl | hy
    · exact hloc
    · rw [List.mem_singleton.mp hy]; exact hloc') (fun L' h₁ F N => h L' h₁ _ (by
    have e : (fun y => List.lookup y ([(x, v), (x', v')] : List (Str × Value)).reverse) = fun y => if y = x then some v else if y = x' then some v' else none := by
      funext y
      show List.lookup y [(x', v'), (x, v)] = _
      by_cases hy : y = x
      · have h2 : (y == x') = false := beq_eq_false_iff_ne.mpr (by rw [hy]; exact hne)
        have h3 : (y == x) = true := beq_iff_eq.mpr hy
        simp only [List.lookup, h2, h3, if_pos hy]
      · have h3 : (y == x) = false := beq_eq_false_iff_ne.mpr hy
        by_cases hy' : y = x'
        · have h2 : (y == x') = true := beq_iff_eq.mpr hy'
          simp only [List.lookup, h2, if_neg hy, if_pos hy']
        · have h2 : (y == x') = false := beq_eq_false_iff_ne.mpr hy'
          simp only [List.lookup, h2, h3, if_neg hy, if_neg hy']
    rw [← e]; exact F) N) hco hgen hk hcell
end
theorem gen_toks {α : Type} {M : Model} {A : Around} {t : Sem α} {Q : α → Shared → Prop} {E : Value → Shared → Prop} {h : Heap} {g : Array GenState} {d : Drawn} {X : Nat} {o : OsState}
    (H : ∀ tk, wpAny M A t Q E ⟨h, g, d, tk, o⟩) : wpAny M A t Q E ⟨h, g, d, X, o⟩ := H X
local macro_rules
  | `(tactic| walk_at "execs cons") => `(tactic| (k_here; (with_reducible show wpAny _ _ (execs (_ :: _) _) _ _ (Shared.mk _ _ _ _ _)); (with_reducible refine gen_toks ?_); intro tk; (with_reducible refine wpAny_execs_cons ?_); (try dsimp only)))
  | `(tactic| walk_at "execs nil") => `(tactic| (k_here; (with_reducible show wpAny _ _ (execs [] _) _ _ (Shared.mk _ _ _ _ _)); (with_reducible refine gen_toks ?_); intro tk; (with_reducible refine wpAny_execs_nil ?_); (try dsimp only)))

theorem ba_no_bytes : typeLookup (.type "bytearray") "__bytes__" = pure none := by rw [typeLookup_type, builtinLookup_eq_fast]; kernel_rfl
theorem ba_no_index : typeLookup (.type "bytearray") "__index__" = pure none := by rw [typeLookup_type, builtinLookup_eq_fast]; kernel_rfl
theorem ba_look_buffer : typeLookup (.type "bytearray") "__buffer__" = pure (some (.builtin "bytearray.__buffer__")) := by rw [typeLookup_type, builtinLookup_eq_fast]; kernel_rfl
theorem int_no_bytes : typeLookup (.type "int") "__bytes__" = pure none := by rw [typeLookup_type, builtinLookup_eq_fast]; kernel_rfl
theorem ba_getitem : Slot "bytearray" "__getitem__" "bytearray.__getitem__" :=
  .of (owner := "bytearray") (n := "__getitem__") (by rw [typeLookup_type, builtinLookup_eq_fast]; kernel_rfl) (by decide +kernel) (by decide +kernel) (by decide +kernel)
    (by first | exact .inl (by decide +kernel) | exact .inr (by decide +kernel)) (by rw [isSubtype_type]; kernel_rfl)
theorem ba_entry_getitem : entryFor table "bytearray.__getitem__" = some Builtin.«bytearray.__getitem__» := entryFor_of_tree (by kernel_rfl)
section
variable {prog : Program} {w : World} {A : Around} {E : Value → Shared → Prop} {s : Shared}
theorem ba_own_buffer {D : Addr} {b : Array UInt8} (hD : s.heap.get? D = some (baObj b)) {M : Model} {Q : Bool → Shared → Prop} (h : Q true s) : wpAny M A (Builtin.Bytes.slotIsOwn (.ref D) "__buffer__") Q E s := by
  have hT : s.TypeIs (.ref D) "bytearray" := ⟨_, hD, rfl⟩
  unfold Builtin.Bytes.slotIsOwn
  refine wpAny_bind (wpAny_specialOf hT ba_look_buffer ?_)
  dsimp only
  have e1 : ("bytearray.__buffer__".endsWith ("." ++ "__buffer__")) = true := by decide +kernel
  have e2 : "bytearray.__buffer__".dropRight ("__buffer__".length + 1) = "bytearray" := by decide +kernel
  rw [e1, e2]
  exact wpAny_isInstance hT ba_sub h
theorem ba_buffer {id : String} {f : Bool} {D : Addr} {b : Array UInt8} (hD : s.heap.get? D = some (baObj b)) {M : Model} {Q : Option (Array UInt8) → Shared → Prop} (h : Q (some b) s) : wpAny M A (Builtin.Bytes.buffer? id (.ref D) f) Q E s := by
  have hT : s.TypeIs (.ref D) "bytearray" := ⟨_, hD, rfl⟩
  unfold Builtin.Bytes.buffer?
  refine wpAny_bind (wpAny_specialOf hT ba_look_buffer ?_)
  dsimp only
  refine wpAny_bind (ba_own_buffer hD ?_)
  refine bm_if_false rfl ?_
  refine wpAny_bind (wpAny_specialOf hT ba_look_buffer ?_)
  refine wpAny_bind (ba_own hD ?_)
  refine bm_if_false rfl ?_
  exact wpAny_bind (ba_payload hD (wpAny_pure h))
theorem ba_bytes {D : Addr} {b : Array UInt8} (hD : s.heap.get? D = some (baObj b)) (hz : b.size ≤ 16777216) {Q : Value → Shared → Prop} (hQ : ∀ t k, Q (.bytes b t) { s with toks := k }) :
    wpAny (model prog w) A (call (.type "bytes") [.ref D]) Q E s := by
  have hT : s.TypeIs (.ref D) "bytearray" := ⟨_, hD, rfl⟩
  have new : codeAny (model prog w) A.in1 (.call (.builtin "bytes.__new__") ⟨[.type "bytes", .ref D], []⟩) (wants (fun obj s₁ => s₁.TypeIs obj "bytes" ∧ Q obj s₁) E) s := by
    refine codeAny_of_tree ?_
    show wpAny _ A.in1.in1 (do checkBuiltinCall "bytes.__new__" ⟨[.type "bytes", .ref D], []⟩; again (.builtin "bytes.__new__" ⟨[.type "bytes", .ref D], []⟩)) _ _ s
    refine wpAny_bind (wpAny_of_eq (F.bm_newCall _) (wpAny_pure ⟨plainId_quiet F.bm_plain _, codeAny_builtin F.bm_entry ?_⟩))
    rw [Around.under_plainId F.bm_plain _]
    unfold Builtin.«bytes.__new__»
    refine wpAny_bind (wpAny_of_eq (a := true) rfl ?_)
    refine bm_if_false rfl ?_
    refine wpAny_bind (wpAny_of_eq F.bm_sub ?_)
    refine bm_if_false rfl ?_
    refine wpAny_bind (wpAny_of_eq (F.bm_bind _) ?_)
    refine wpAny_bind (wpAny_of_eq (a := ()) rfl ?_)
    refine wpAny_bind (wpAny_of_eq (a := ()) rfl ?_)
    refine bm_if_false rfl ?_
    refine wpAny_bind (wpAny_specialOf hT ba_no_bytes ?_)
    refine wpAny_bind (wpAny_bind ?_)
    show wpAny _ _ (load D >>= _) _ _ _
    refine wpAny_bind (wpAny_load hD ?_)
    refine wpAny_pure (wpAny_pure ?_)
    refine bm_if_false rfl ?_
    refine wpAny_bind (wpAny_specialOf hT ba_no_index ?_)
    refine bm_if_true rfl ?_
    first
      | show wpAny _ _ (Builtin.Bytes.buffer? "bytes.__new__" (.ref D) true >>= _) _ _ _
      | (refine wpAny_bind ?_; show wpAny _ _ (Builtin.Bytes.buffer? "bytes.__new__" (.ref D) true >>= _) _ _ _)
    refine wpAny_bind (ba_buffer hD ?_)
    dsimp only
    refine wpAny_bind (wpAny_rule ?_)
    refine wpAny_bind (wpAny_mkBytes ?_ (by rw [sizeLine_eq]; exact hz))
    exact fun _ _ _ => ⟨typeIs_bytes _ _ _, hQ _ _⟩
  refine callType_codes (Q₁ := fun obj s₁ => s₁.TypeIs obj "bytes" ∧ Q obj s₁) F.bm_called (F.bm_typeCall _) F.entry_object_init new fun obj s₁ h₁ => ?_
  exact ⟨h₁.1, F.args_object_init_2 obj _, object_init_meets F.bm_called.init.lookup F.bm_called.made (by decide) prog w A.in1 _ s₁ ⟨h₁.1, rfl, h₁.2⟩⟩
/-- bytes(n): noughts -/
theorem bytes_zeros {n : Int} {u : Tok} (h0 : 0 ≤ n) (h1 : n ≤ 16777216) {Q : Value → Shared → Prop} (hQ : ∀ t k, Q (.bytes (Array.replicate n.toNat 0) t) { s with toks := k }) :
    wpAny (model prog w) A (call (.type "bytes") [.int n u]) Q E s := by
  have hT : s.TypeIs (.int n u) "int" := rfl
  have new : codeAny (model prog w) A.in1 (.call (.builtin "bytes.__new__") ⟨[.type "bytes", .int n u], []⟩) (wants (fun obj s₁ => s₁.TypeIs obj "bytes" ∧ Q obj s₁) E) s := by
    refine codeAny_of_tree ?_
    show wpAny _ A.in1.in1 (do checkBuiltinCall "bytes.__new__" ⟨[.type "bytes", .int n u], []⟩; again (.builtin "bytes.__new__" ⟨[.type "bytes", .int n u], []⟩)) _ _ s
    refine wpAny_bind (wpAny_of_eq (F.bm_newCall _) (wpAny_pure ⟨plainId_quiet F.bm_plain _, codeAny_builtin F.bm_entry ?_⟩))
    rw [Around.under_plainId F.bm_plain _]
    unfold Builtin.«bytes.__new__»
    refine wpAny_bind (wpAny_of_eq (a := true) rfl ?_)
    refine bm_if_false rfl ?_
    refine wpAny_bind (wpAny_of_eq F.bm_sub ?_)
    refine bm_if_false rfl ?_
    refine wpAny_bind (wpAny_of_eq (F.bm_bind _) ?_)
    refine wpAny_bind (wpAny_of_eq (a := ()) rfl ?_)
    refine wpAny_bind (wpAny_of_eq (a := ()) rfl ?_)
    refine bm_if_false rfl ?_
    refine wpAny_bind (wpAny_specialOf hT int_no_bytes ?_)
    refine wpAny_bind (wpAny_bind (wpAny_of_eq (a := none) rfl ?_))
    refine wpAny_pure ?_
    refine bm_if_false rfl ?_
    refine wpAny_bind (wpAny_specialOf hT F.slot_int_index.lookup ?_)
    refine bm_if_false rfl ?_
    refine wpAny_bind (wpAny_attempt (wpAny_of_eq (a := n) rfl ?_))
    refine bm_if_false (by simp [Builtin.Bytes.fitsIndex]; omega) ?_
    refine wpAny_ite ?_
    rw [if_neg (by omega)]
    refine wpAny_ite ?_
    rw [if_neg (by omega)]
    refine bm_if_false (KBy.tooLong_not (by omega)) ?_
    refine wpAny_bind (wpAny_rule ?_)
    refine wpAny_bind (wpAny_mkBytes ?_ (by rw [sizeLine_eq, Array.size_replicate]; omega))
    exact fun _ _ _ => ⟨typeIs_bytes _ _ _, hQ _ _⟩
  refine callType_codes (Q₁ := fun obj s₁ => s₁.TypeIs obj "bytes" ∧ Q obj s₁) F.bm_called (F.bm_typeCall _) F.entry_object_init new fun obj s₁ h₁ => ?_
  exact ⟨h₁.1, F.args_object_init_2 obj _, object_init_meets F.bm_called.init.lookup F.bm_called.made (by decide) prog w A.in1 _ s₁ ⟨h₁.1, rfl, h₁.2⟩⟩
theorem ints_zeros (n : Nat) : KBw.bInts (Array.replicate n 0) = List.replicate n 0 := by simp [KBw.bInts]
end
section
variable {prog : Program} {w : World} {A : Around} {E : Value → Shared → Prop} {s : Shared} {value slice : Expr} {h₀ : Heap} {L : Addr} {m : Str → Option Value} {news : List (Addr × Obj)}
theorem ba_slice {D : Addr} {b : Array UInt8} {hi : Int} {tu : Tok} {Q : Value → Shared → Prop} (hF : Fr h₀ L s.heap m) (hN : News h₀ L s.heap news) (hD : (D, baObj b) ∈ news) (hz : b.size ≤ 16777216)
    (h : ∀ D' h' k, Fr h₀ L h' m → News h₀ L h' (news ++ [(D', baObj (KBy.picked b none (some hi)))]) → Q (.ref D') { s with heap := h', toks := k })
    (hs : subscripted slice false (.ref D) (.ref s.heap.objs.size) = operate [.ref s.heap.objs.size, .ref D] (getItem (.ref D) (.ref s.heap.objs.size)) := by with_unfolding_all rfl)
    (ht : ∀ r, letTemporaryGo value (.ref D) r = pure () := by intro _; with_unfolding_all rfl) :
    wpAny (model prog w) A (subscriptTail value slice (.ref D) (.ref s.heap.objs.size)) Q E { s with heap := s.heap.push { cls := .type "slice", data := .fields #[.none, .int hi tu, .none] } } := by
  have hg : s.heap.get? D = some (baObj b) := (hN _ hD).1
  have hg1 : (s.heap.push { cls := .type "slice", data := .fields #[.none, .int hi tu, .none] }).get? D = some (baObj b) := Heap.get?_push_of_some _ hg
  have hT : ({ s with heap := s.heap.push { cls := .type "slice", data := .fields #[.none, .int hi tu, .none] } } : Shared).TypeIs (.ref D) "bytearray" := ⟨_, hg1, rfl⟩
  refine tail_of_ItemOn ⟨"bytearray", _, ba_getitem.lookup, hT, wpAny_getItem_slot hT (by decide) ba_getitem (wpAny_call (codeAny_call_builtin ba_getitem.plain ba_entry_getitem (ba_getitem.check _ _ _ _ _ _ _ _ hT (by kernel_rfl) ?_)))⟩ hs ht
  generalize hS : s.heap.objs.size = S
  have ho : (s.heap.push { cls := .type "slice", data := .fields #[.none, .int hi tu, .none] }).get? S = some { cls := .type "slice", data := .fields #[.none, .int hi tu, .none] } := by rw [← hS]; exact Heap.get?_push_size _ rfl
  generalize hH : s.heap.push { cls := .type "slice", data := .fields #[.none, .int hi tu, .none] } = H at *
  have hTs : ({ s with heap := H } : Shared).TypeIs (.ref S) "slice" := ⟨_, ho, rfl⟩
  unfold Builtin.«bytearray.__getitem__»
  refine wpAny_bind (wpAny_of_eq (a := (.ref D, [.ref S])) rfl ?_)
  dsimp only
  refine wpAny_bind ?_
  unfold Builtin.Bytes.subscript?
  refine wpAny_bind (wpAny_specialOf hTs slice_no_index (wpAny_pure ?_))
  refine wpAny_bind (wpAny_typeOf hTs ?_)
  refine bm_if_false rfl ?_
  refine wpAny_bind ?_
  unfold Builtin.Bytes.sliceParts
  refine wpAny_bind (wpAny_field (x := .none) ho rfl rfl ?_)
  kby_none
  refine wpAny_ite (KBy.ite_no (show ¬ ((Value.none == rawInt 0) = true) from Bool.false_ne_true) ?_)
  refine wpAny_bind (wpAny_field (x := .none) ho rfl rfl ?_)
  kby_none
  refine wpAny_bind (wpAny_field (x := .int hi tu) ho rfl rfl ?_)
  kby_int
  refine wpAny_pure ?_
  refine wpAny_bind (ba_payload hg1 ?_)
  have go : wpAny (model prog w) A.in1 (sliceIndices (rawPart none) (rawPart (some hi)) (rawPart none) b.size) (fun r s' => r = sliceBounds none (some hi) none b.size ∧ s' = { s with heap := H }) (fun _ _ => False) { s with heap := H } :=
    wpAny_of_eq (sliceIndices_raw none (some hi) none b.size (fun e => nomatch e)) ⟨rfl, rfl⟩
  refine wpAny_bind (wpAny_mono go (fun r s' hr => ?_) fun _ _ e => e.elim)
  obtain ⟨hr1, hr2⟩ := hr
  subst hr1 hr2
  refine wpAny_bind ?_
  unfold Builtin.Bytes.newBytearray
  refine wpAny_newObj_type ?_ (by
    have := KBc.size_picked_le b none (some hi)
    show (KBy.picked b none (some hi)).size ≤ sizeLine
    rw [sizeLine_eq]; omega)
  have hN1 : News h₀ L H news := by subst hH; exact News.pushKeep hN _
  have hF1 : Fr h₀ L H m := by subst hH; exact hF.push _
  have hN2 : News h₀ L (H.push (baObj (KBy.picked b none (some hi)))) (news ++ [(H.objs.size, baObj (KBy.picked b none (some hi)))]) := fun p hp => by
    rcases List.mem_append.mp hp with hp | hp
    · exact News.pushKeep hN1 _ p hp
    · rw [List.mem_singleton.mp hp]
      exact ⟨Heap.get?_push_size _ rfl, fun e => by have := hF1.ns.lt; rw [← e] at this; exact Nat.lt_irrefl _ this, next_is_new hF1⟩
  exact wpAny_pure (h _ _ _ (hF1.push _) hN2)
end
section
variable {prog : Program} {w : World} {A : Around} {E : Value → Shared → Prop} {s : Shared} {h₀ : Heap} {L : Addr} {m : Str → Option Value} {news : List (Addr × Obj)}
theorem ba_bytesK {D : Addr} {b : Array UInt8} {ks : List Int} {Q : Value → Shared → Prop} (N : News h₀ L s.heap news) (hD : (D, baObj b) ∈ news) (hk : KBw.bInts b = ks) (hz : ks.length ≤ 16777216) (hQ : ∀ t k, Q (.bytes b t) { s with toks := k }) :
    wpAny (model prog w) A (call (.type "bytes") [.ref D]) Q E s := ba_bytes (N _ hD).1 (by rw [← KBw.ints_length b, hk]; exact hz) hQ
theorem ba_sliceK {value slice : Expr} {D : Addr} {b : Array UInt8} {ks : List Int} {hi : Int} {tu : Tok} {Q : Value → Shared → Prop} (hF : Fr h₀ L s.heap m) (hN : News h₀ L s.heap news) (hD : (D, baObj b) ∈ news) (hk : KBw.bInts b = ks) (hz : ks.length ≤ 16777216)
    (h : ∀ D' h' k, Fr h₀ L h' m → News h₀ L h' (news ++ [(D', baObj (KBy.picked b none (some hi)))]) → KBw.bInts (KBy.picked b none (some hi)) = ks.take (clipAt ks.length hi) → Q (.ref D') { s with heap := h', toks := k })
    (hs : subscripted slice false (.ref D) (.ref s.heap.objs.size) = operate [.ref s.heap.objs.size, .ref D] (getItem (.ref D) (.ref s.heap.objs.size)) := by with_unfolding_all rfl)
    (ht : ∀ r, letTemporaryGo value (.ref D) r = pure () := by intro _; with_unfolding_all rfl) :
    wpAny (model prog w) A (subscriptTail value slice (.ref D) (.ref s.heap.objs.size)) Q E { s with heap := s.heap.push { cls := .type "slice", data := .fields #[.none, .int hi tu, .none] } } :=
  ba_slice hF hN hD (by rw [← KBw.ints_length b, hk]; exact hz) (fun D' h' k F N => h D' h' k F N (by
    have := KBc.ints_picked hk none (some hi)
    simpa using this)) hs ht
theorem bytes_zerosK {n : Int} {u : Tok} {Q : Value → Shared → Prop} (h0 : 0 ≤ n) (h1 : n ≤ 16777216) (hQ : ∀ b t k, KBw.bInts b = List.replicate n.toNat 0 → Q (.bytes b t) { s with toks := k }) :
    wpAny (model prog w) A (call (.type "bytes") [.int n u]) Q E s := bytes_zeros h0 h1 fun t k => hQ _ t k (ints_zeros _)
end
local macro_rules
  | `(tactic| walk_at "call type:bytes") => `(tactic| (k_here; first
    | ((with_reducible show wpAny _ _ (call (Value.type "bytes") [Value.int _ _]) _ _ _); k_dflt (refine' bytes_zerosK ?b0 ?b1 ?_; (case b0 => omega); (case b1 => omega); k_whole); intro bz' tb' tk' kz'; (try simp only [show Int.toNat 3 = 3 from rfl, List.replicate_succ, List.replicate_zero] at kz'))
    | ((with_reducible show wpAny _ _ (call (Value.type "bytes") [Value.ref _]) _ _ _); k_dflt (refine' ba_bytesK ?bN ?bD ?bk ?bz ?_; (case bN => k_asm); (case bD => k_mem); (case bk => kba_ints); (case bz => kba_size); k_whole); intro tb' tk')))
  | `(tactic| walk_at "binaryOp Add bytes bytes") => `(tactic| (k_here; (with_reducible show wpAny _ _ (binaryOp Operator.Add (Value.bytes _ _) (Value.bytes _ _)) _ _ _); (refine KBa.add_K (by kba_ints) (by kba_ints2) (by simp only [List.length_map, List.length_append, List.length_cons, List.length_nil, List.length_take, List.length_drop, List.length_replicate, rangeKs_length]; omega) ?_); intro _ _ kbaApp))
  | `(tactic| walk_at "subscriptTail") => `(tactic| (k_here; (with_reducible show wpAny _ _ (subscriptTail _ (Expr.Slice _ _ none _) (Value.ref _) (Value.ref _)) _ _ _); (with_reducible rename Fr _ _ _ _ => F'); (with_reducible rename News _ _ _ _ => N'); (refine ba_sliceK (s := ⟨_, _, _, _, _⟩) F' N' (by k_mem) (by kba_ints) (by kba_size) ?_); intro _ _ _ _ _ kbcK; (try simp only [KBc.clip_lit, clipAt_nat] at kbcK)))

section
variable {prog : Program} {w : World} {A : Around} {E : Value → Shared → Prop} {s : Shared} {env : Env} {g : Heap} {L : Addr} {m : Str → Option Value} {news : List (Addr × Obj)}
/-- s₁ is s but for the heap and the tokens -/
noncomputable abbrev Onward (s s₁ : Shared) : Prop := ∃ h tk, s₁ = { s with heap := h, toks := tk }
theorem Onward.refl (s : Shared) : Onward s s := ⟨s.heap, s.toks, rfl⟩
/-- one int in a new list, told by P -/
noncomputable def OneInt (g : Heap) (L : Addr) (m : Str → Option Value) (news : List (Addr × Obj)) (P : Int → Prop) (s : Shared) (vs : List Value) (s₁ : Shared) : Prop :=
  ∃ l k t, vs = [.ref l] ∧ s₁.heap.IsList l #[.int k t] ∧ P k ∧ Fr g L s₁.heap m ∧ News g L s₁.heap news ∧ Onward s s₁
theorem OneInt.mk {P : Int → Prop} {s s₁ : Shared} {news' : List (Addr × Obj)} {l : Addr} {k : Int} {t : Tok} {n : Nat} (N' : News g L s₁.heap news') (hm : (l, PySem.W.listOf #[.int k t] n) ∈ news') (F : Fr g L s₁.heap m) (N : News g L s₁.heap news) (o : Onward s s₁) (hp : P k) :
    OneInt g L m news P s [.ref l] s₁ := ⟨l, k, t, rfl, ⟨_, (N' _ hm).1, rfl, _, rfl⟩, hp, F, N, o⟩
theorem callT1J {T : String} {pos : Pos} {e : Expr} {Q : Value → Shared → Prop} (P : Int → Prop) (F : Fr g L s.heap m) (N : News g L s.heap news)
    (h : wpAny (model prog w) A (spliced (backTo pos (starEach [e] env))) (OneInt g L m news P s) E s)
    (hc : ∀ l k t h tk, h.IsList l #[.int k t] → P k → Fr g L h m → News g L h news → wpS (model prog w) A (call (.type T) [.ref l]) Q E { s with heap := h, toks := tk })
    (he : starEach [e] env = [(false, eval e env)] := by rfl) :
    wpS (model prog w) A (callWith pos (.type T) [] (backTo pos (starEach [e] env)) []) Q E s :=
  wpS_callT1 (wpAny_mono h (fun _ _ q => by obtain ⟨l, k, t, e1, e2, e3, e4, e5, h, tk, e6⟩ := q; subst e1; subst e6; exact hc l k t h tk e2 e3 e4 e5) fun _ _ e => e) he
/-- a statement gives a name an int told by P -/
noncomputable def GivesInt (g : Heap) (L : Addr) (m : Str → Option Value) (news : List (Addr × Obj)) (x : Str) (P : Int → Prop) (s : Shared) (fl : Flow) (s₁ : Shared) : Prop :=
  fl = .next ∧ ∃ k t, P k ∧ Fr g L s₁.heap (fun y => if y = x then some (.int k t) else m y) ∧ News g L s₁.heap news ∧ Onward s s₁
theorem GivesInt_mk {x : Str} {P : Int → Prop} {s s₁ : Shared} {k : Int} {t : Tok} (F : Fr g L s₁.heap (fun y => if y = x then some (.int k t) else m y)) (N : News g L s₁.heap news) (o : Onward s s₁) (hp : P k) :
    GivesInt g L m news x P s .next s₁ := ⟨rfl, k, t, hp, F, N, o⟩
theorem joinInt {st : Stmt} {rest : List Stmt} {Q : Flow → Shared → Prop} (x : Str) (P : Int → Prop) (F : Fr g L s.heap m) (N : News g L s.heap news)
    (h : wpAny (model prog w) A (exec st env) (GivesInt g L m news x P s) E s)
    (hc : ∀ k t h tk, P k → Fr g L h (fun y => if y = x then some (.int k t) else m y) → News g L h news → wpS (model prog w) A (execs rest env) Q E { s with heap := h, toks := tk }) :
    wpS (model prog w) A (execs (st :: rest) env) Q E s :=
  wpS_plain (wpAny_mono h (fun _ _ q => by obtain ⟨e1, k, t, e2, e3, e4, h, tk, e5⟩ := q; subst e1; subst e5; exact hc k t h tk e2 e3 e4) fun _ _ e => e)
end
section
variable {prog : Program} {w : World} {A : Around} {E : Value → Shared → Prop} {s : Shared} {g : Heap} {L : Addr} {m : Str → Option Value} {news : List (Addr × Obj)}
theorem ba_call_0K {Q : Value → Shared → Prop} (F : Fr g L s.heap m) (N : News g L s.heap news)
    (h : ∀ D h', (∀ p ∈ news, p.1 ≠ D) → Fr g L h' m → News g L h' ((D, baObj #[]) :: news) → Q (.ref D) { s with heap := h' }) : wpS (model prog w) A (call (.type "bytearray") []) Q E s := by
  refine ba_call_0 fun h' hD hk => h _ h' (fun p hp e => ?_) ⟨F.ns.at' fun o e => hk _ o e, fun b o e => hk b o (F.keep b o e), F.above⟩ fun p hp => ?_
  · have := Heap.lt_size (N p hp).1; rw [e] at this; exact Nat.lt_irrefl _ this
  · rcases List.mem_cons.mp hp with rfl | hp
    · exact ⟨hD, fun e => by have := F.ns.lt; rw [← e] at this; exact Nat.lt_irrefl _ this, next_is_new F⟩
    · exact ⟨hk _ _ (N p hp).1, (N p hp).2⟩
theorem ba_call_1K {l : Addr} {k : Int} {t : Tok} {Q : Value → Shared → Prop} (F : Fr g L s.heap m) (N : News g L s.heap news) (hl : s.heap.IsList l #[.int k t]) (h0 : 0 ≤ k) (h1 : k < 256)
    (h : ∀ D b h', (∀ p ∈ news, p.1 ≠ D) → KBw.bInts b = [k] → Fr g L h' m → News g L h' ((D, baObj b) :: news) → Q (.ref D) { s with heap := h' }) : wpS (model prog w) A (call (.type "bytearray") [.ref l]) Q E s := by
  refine ba_call_1 hl h0 h1 fun h' hD hk => h _ #[k.toNat.toUInt8] h' (fun p hp e => ?_) ?_ ⟨F.ns.at' fun o e => hk _ o e, fun b o e => hk b o (F.keep b o e), F.above⟩ fun p hp => ?_
  · have := Heap.lt_size (N p hp).1; rw [e] at this; exact Nat.lt_irrefl _ this
  · have e := KBa.ints_make (ns := [k]) (fun x hx => by rw [List.mem_singleton.mp hx]; exact ⟨h0, h1⟩)
    simpa [byteArr] using e
  · rcases List.mem_cons.mp hp with rfl | hp
    · exact ⟨hD, fun e => by have := F.ns.lt; rw [← e] at this; exact Nat.lt_irrefl _ this, next_is_new F⟩
    · exact ⟨hk _ _ (N p hp).1, (N p hp).2⟩
theorem ba_inplaceK {D : Addr} {b c : Array UInt8} {u : Tok} (F : Fr g L s.heap m) (N : News g L s.heap news) (hD : (D, baObj b) ∈ news) (hz : b.size + c.size ≤ 16777216) {Q : Value → Shared → Prop}
    (h : ∀ h', Fr g L h' m → (∀ news', (∀ p ∈ news', p = (D, baObj (b ++ c)) ∨ (p ∈ news ∧ p.1 ≠ D)) → News g L h' news') → Q (.ref D) { s with heap := h' }) :
    wpS (model prog w) A (inplaceOp .Add (.ref D) (.bytes c u)) Q E s := by
  obtain ⟨d1, d2, d3⟩ := N _ hD
  refine ba_inplace d1 hz fun h' e1 e2 => h h' ⟨F.ns.at' fun o e => (e2.2 _ (fun q => d2 q.symm)).trans e, fun b o e => ?_, F.above⟩ fun news' hn p hp => ?_
  · by_cases q : b = D
    · subst q; rw [d3] at e; cases e
    · exact (e2.2 _ q).trans (F.keep b o e)
  · rcases hn p hp with rfl | ⟨h1, h2⟩
    · exact ⟨e1, d2, d3⟩
    · exact ⟨(e2.2 _ h2).trans (N p h1).1, (N p h1).2⟩
/-- a statement gives a name bytes told by P -/
noncomputable def GivesBytes (g : Heap) (L : Addr) (m : Str → Option Value) (news : List (Addr × Obj)) (x : Str) (P : List Int → Prop) (s : Shared) (fl : Flow) (s₁ : Shared) : Prop :=
  fl = .next ∧ ∃ b t, P (KBw.bInts b) ∧ Fr g L s₁.heap (fun y => if y = x then some (.bytes b t) else m y) ∧ News g L s₁.heap news ∧ Onward s s₁
theorem GivesBytes_mk {x : Str} {P : List Int → Prop} {s s₁ : Shared} {b : Array UInt8} {t : Tok} (F : Fr g L s₁.heap (fun y => if y = x then some (.bytes b t) else m y)) (N : News g L s₁.heap news) (o : Onward s s₁) (hp : P (KBw.bInts b)) :
    GivesBytes g L m news x P s .next s₁ := ⟨rfl, b, t, hp, F, N, o⟩
theorem joinBytesA {st : Stmt} {rest : List Stmt} {Q : Flow → Shared → Prop} (x : Str) (P : List Int → Prop) (F : Fr g L s.heap m) (N : News g L s.heap news)
    (h : wpAny (model prog w) A (exec st env) (GivesBytes g L m news x P s) E s)
    (hc : ∀ b t h tk, P (KBw.bInts b) → Fr g L h (fun y => if y = x then some (.bytes b t) else m y) → News g L h news → wpAny (model prog w) A (execs rest env) Q E { s with heap := h, toks := tk }) :
    wpAny (model prog w) A (execs (st :: rest) env) Q E s :=
  wpAny_execs_cons (wpAny_mono h (fun _ _ q => by obtain ⟨e1, b, t, e2, e3, e4, h, tk, e5⟩ := q; subst e1; subst e5; exact hc b t h tk e2 e3 e4) fun _ _ e => e)
end

/-- the sign of a row's length -/
noncomputable def sign1 (n : Nat) : Int := if n ≤ 26 then 64 + n else 70 + n
/-- four octets from the place 4i on, filled with noughts -/
noncomputable def four (ks : List Int) (i : Nat) : List Int := (((ks.drop (4 * i)).take 4) ++ [0, 0, 0]).take 4
/-- the signs -/
noncomputable def signs85 : List UInt8 := [48, 49, 50, 51, 52, 53, 54, 55, 56, 57, 65, 66, 67, 68, 69, 70, 71, 72, 73, 74, 75, 76, 77, 78, 79, 80, 81, 82, 83, 84, 85, 86, 87, 88, 89, 90, 97, 98, 99, 100, 101, 102, 103, 104, 105, 106, 107, 108, 109, 110, 111, 112, 113, 114, 115, 116, 117, 118, 119, 120, 121, 122, 33, 35, 36, 37, 38, 40, 41, 42, 43, 45, 59, 60, 61, 62, 63, 64, 94, 95, 96, 123, 124, 125, 126]
/-- the sign of a number's last figure by base 85 -/
noncomputable def sgn (x : Int) : Int := ((signs85.getD (x.fmod 85).toNat 0).toNat : Int)
theorem sgn_in (x : Int) : 0 ≤ sgn x ∧ sgn x < 256 := by
  unfold sgn
  have := (signs85.getD (x.fmod 85).toNat 0).toNat_lt
  omega
/-- the five signs of a number -/
noncomputable def group5 (x : Int) : List Int := [sgn ((((x.fdiv 85).fdiv 85).fdiv 85).fdiv 85), sgn (((x.fdiv 85).fdiv 85).fdiv 85), sgn ((x.fdiv 85).fdiv 85), sgn (x.fdiv 85), sgn x]
/-- a row's octets behind i groups -/
noncomputable def rowBody (ks : List Int) : Nat → List Int
  | 0 => [sign1 ks.length]
  | i + 1 => rowBody ks i ++ group5 (num (four ks i))
theorem rowBody_length (ks : List Int) (i : Nat) : (rowBody ks i).length = 1 + 5 * i := by
  induction i with
  | zero => rfl
  | succ i ih => simp only [rowBody, List.length_append, ih, group5, List.length_cons, List.length_nil]; omega
theorem four_length {ks : List Int} {i : Nat} (h : 4 * i < ks.length) : (four ks i).length = 4 := by
  simp only [four, List.length_take, List.length_append, List.length_drop, List.length_cons, List.length_nil]; omega
theorem four_clip {ks : List Int} {i : Nat} (h : 4 * i < ks.length) :
    List.take (clipAt (List.take (clipAt ks.length (0 + (i : Int) * 4 + 4) - clipAt ks.length (0 + (i : Int) * 4)) (List.drop (clipAt ks.length (0 + (i : Int) * 4)) ks) ++ [0, 0, 0]).length 4)
      (List.take (clipAt ks.length (0 + (i : Int) * 4 + 4) - clipAt ks.length (0 + (i : Int) * 4)) (List.drop (clipAt ks.length (0 + (i : Int) * 4)) ks) ++ [0, 0, 0]) = four ks i := by
  have e1 : (0 + (i : Int) * 4) = ((4 * i : Nat) : Int) := by omega
  have e2 : (0 + (i : Int) * 4 + 4) = ((4 * i + 4 : Nat) : Int) := by omega
  have e3 : (4 : Int) = ((4 : Nat) : Int) := rfl
  rw [e2, e1]
  simp only [clipAt_nat]
  have e4 : min (4 * i) ks.length = 4 * i := by omega
  rw [e4]
  have e5 : List.take (min (4 * i + 4) ks.length - 4 * i) (List.drop (4 * i) ks) = List.take 4 (List.drop (4 * i) ks) := by
    by_cases q : 4 * i + 4 ≤ ks.length
    · rw [Nat.min_eq_left q]; congr 1; omega
    · rw [List.take_of_length_le (by rw [List.length_drop]; omega), List.take_of_length_le (by rw [List.length_drop]; omega)]
  rw [e5]
  generalize hX : List.take 4 (List.drop (4 * i) ks) ++ [0, 0, 0] = Y
  have hl : 4 ≤ Y.length := by
    rw [← hX]; simp only [List.length_append, List.length_take, List.length_drop, List.length_cons, List.length_nil]; omega
  rw [e3, clipAt_nat, Nat.min_eq_left hl]
  unfold four
  rw [hX]
theorem size4 (n : Nat) : Builtin.Range.rangeSize 0 (n : Int) 4 = (((n + 3) / 4 : Nat) : Int) := by
  unfold Builtin.Range.rangeSize
  simp
  omega
theorem small4 {n : Nat} (h : n ≤ 52) : Builtin.Range.small 0 (n : Int) 4 = true := by
  exact (by decide +kernel : ∀ m : Fin 53, Builtin.Range.small 0 ((m.val : Nat) : Int) 4 = true) ⟨n, by omega⟩
/-- x by 85, i times -/
noncomputable def fd85 (x : Int) : Nat → Int
  | 0 => x
  | i + 1 => (fd85 x i).fdiv 85
/-- the signs of x, the last first -/
noncomputable def sg85 (x : Int) : Nat → List Int
  | 0 => []
  | i + 1 => sg85 x i ++ [sgn (fd85 x i)]
theorem sg85_length (x : Int) (i : Nat) : (sg85 x i).length = i := by
  induction i with
  | zero => rfl
  | succ i ih => rw [sg85, List.length_append, ih]; rfl
noncomputable def JS (x : Int) (S : Addr) (tl : List (Addr × Obj)) (m₀ : Str → Option Value) (i : Nat) (m : Str → Option Value) (nx : List (Addr × Obj)) : Prop :=
  ∃ (its : Array Value) (t : Tok), nx = (S, PySem.W.listOf its i) :: tl ∧ IntsAre its.toList (sg85 x i) ∧ m (Str.ofString "number") = some (.int (fd85 x i) t) ∧ ∀ z, z ∉ [Str.ofString "go"] → z ≠ Str.ofString "number" → m z = m₀ z
theorem JS_end {h₀ h' : Heap} {L : Addr} {m' m₀ : Str → Option Value} {own tl : List (Addr × Obj)} {s₁ : Shared} {tk i : Nat} {S : Addr} {o : Obj} {x : Int} {t t' : Tok} {its : Array Value}
    (hI : IntsAre its.toList (sg85 x i)) (F : Fr h₀ L h' m') (N : News h₀ L h' ((S, PySem.W.listOf (its.push (.int (sgn (fd85 x i)) t)) (i + 1)) :: (tl ++ own))) (hy : m' (Str.ofString "number") = some (.int (fd85 x (i + 1)) t')) (hz : ∀ z, z ∉ [Str.ofString "go"] → z ≠ Str.ofString "number" → m' z = m₀ z) :
    InvEndN h₀ L (JS x S tl m₀ (i + 1)) own (List.map (fun x => x.1) ((S, o) :: tl)) s₁ { s₁ with heap := h', toks := tk } :=
  ⟨h', tk, m', _, (S, _) :: tl, rfl, F, N, fun _ hp => List.mem_append_left own hp, fun _ hp => List.mem_append_right (_ :: tl) hp, rfl, _, _, rfl, by rw [Array.toList_push]; exact IntsAre.append hI (.cons _ _ .nil), hy, hz⟩
theorem five_ints {l : List Value} {a b c d e : Int} (h : IntsAre l [a, b, c, d, e]) : ∃ t0 t1 t2 t3 t4, l = [.int a t0, .int b t1, .int c t2, .int d t3, .int e t4] := by
  cases h with | cons _ t0 h => cases h with | cons _ t1 h => cases h with | cons _ t2 h => cases h with | cons _ t3 h => cases h with | cons _ t4 h => cases h; exact ⟨_, _, _, _, _, rfl⟩
theorem c_row85 (hh : A.handled = none) (B : Below A base outer s.heap) (X : (hd.heap_39 w.params).In s.heap) (T : Top hd.view_39 LO mean mg mb s.heap) (hdp : A.depth + 100 < recursionLimit) (hun : A.units + 300 < cLine)
    {b : Array UInt8} {ks : List Int} {t : Tok} (hb : KBw.bInts b = ks) (hk : ks.length ≤ 52)
    (hQ : ∀ b' t' h', KBw.bInts b' = rowBody ks ((ks.length + 3) / 4) ++ [10] → Keeps s.heap h' → ∀ tk', Q (.bytes b' t') { s with heap := h', toks := tk' }) :
    wpS (model PySem.Challenge.rw_pb0094_01.row.prog w) A (call (.ref 127) [.bytes b t]) Q E s := by
  ((
  (with_reducible rename Frag.In _ _ => mX0); revert mX0; k_fill; intro mX1
  (with_reducible rename Below _ _ _ _ => mB0); (with_reducible rename (Around.handled _ = none) => mh0); (with_reducible rename (Around.depth _ + _ < recursionLimit) => md0); (with_reducible rename (Around.units _ + _ < cLine) => mu0)
  first | refine m_open mh0 mB0 md0 mu0 ?_ | refine s_open mh0 mB0 md0 mu0 ?_
  clear mh0 mB0 md0 mu0
  intro zdp zun zgd mB1 md1 mu1))
  refine' enterS1 (Str.ofString "octets") ?s1 ?s2 ?s3 ?s4 ?s5 ?s6 ?s7 ?s8 ?s9 ?s11 ?s12 ?s13 ?s14 ?_
  (((case s1 => k_asm); (case s2 => k_asm); (case s3 => k_asm); (case s4 => first | assumption | exact Led.refl _); (case s5 => k_is); (case s6 => k_is); (case s7 => walk_at "m_rd"); (case s8 => first | exact BindsTo.of_eq rfl | exact binds_K (by k_in) rfl (by k_is) rfl rfl rfl); (case s9 => first | exact rfl | exact locs rfl); (try (case s10 => first | exact rfl | decide +kernel)); (case s11 => exact rfl); (case s12 => exact rfl); (case s13 => exact rfl)))
  case s14 => decide
  intro L' h' tk' F' N'
  refine wpS_execs (wpS_assign (wpS_Call ?_) (by rfl))
  (((try dsimp only); (try k_fold); (repeat' (first | (k_unfold; (try dsimp only)) | walk1 | (k_unmd; k_unfold; (try dsimp only)) | (dsimp only; first | (k_unfold; (try dsimp only)) | walk1)))))
  refine callT1J (fun k => k = sign1 ks.length) (by k_asm) (by k_asm) ?_ ?_ (by rfl)
  · (((try dsimp only); (try k_fold); (repeat' (first | (k_unfold; (try dsimp only)) | walk1 | (k_unmd; k_unfold; (try dsimp only)) | (dsimp only; first | (k_unfold; (try dsimp only)) | walk1)))))
    · (refine OneInt.mk (by k_asm) (by first | exact List.mem_cons_self | k_mem) (by k_asm) (by (first | k_asm | exact News.nil | (intro p hp; (rename News _ _ _ _ => mN); exact mN p (by simp_all)))) ⟨_, _, rfl⟩ ?_)
      unfold sign1; rw [if_pos (by omega)]
    · (refine OneInt.mk (by k_asm) (by first | exact List.mem_cons_self | k_mem) (by k_asm) (by (first | k_asm | exact News.nil | (intro p hp; (rename News _ _ _ _ => mN); exact mN p (by simp_all)))) ⟨_, _, rfl⟩ ?_)
      unfold sign1; rw [if_neg (by omega)]
  · intro l k t1 h1 tk1 hl hP F N
    refine ba_call_1K F N hl ?_ ?_ fun D b1 h2 _ hb1 F2 N2 => ?_
    · rw [hP]; unfold sign1; split <;> omega
    · rw [hP]; unfold sign1; split <;> omega
    clear F N hl
    (((try dsimp only); (try k_fold); (repeat' (first | (k_unfold; (try dsimp only)) | walk1 | (k_unmd; k_unfold; (try dsimp only)) | (dsimp only; first | (k_unfold; (try dsimp only)) | walk1)))))
    rename Fr _ _ _ _ => F3
    rename News _ _ _ _ => N3
    refine wpS_execs (wpS_For (h₀ := s.heap) (m₀ := fun y => if y = Str.ofString "found" then some (Value.ref D) else if y = Str.ofString "octets" then some (.bytes b t) else none) (news := [(D, baObj b1)]) (n := (ks.length + 3) / 4) (a₀ := 0) (c₀ := 4)
      (fun i m nx => ∃ bi, nx = [(D, baObj bi)] ∧ KBw.bInts bi = rowBody ks i ∧ ∀ z, z ∉ [Str.ofString "at", Str.ofString "number", Str.ofString "signs", Str.ofString "go"] → m z = (fun y => if y = Str.ofString "found" then some (Value.ref D) else if y = Str.ofString "octets" then some (.bytes b t) else none) z) rfl (by passes_own) rfl rfl ?turn ?done ?j0 ?head (by intro _; rfl))
    case head =>
      (((try dsimp only); (try k_fold); (repeat' (first | (k_unfold; (try dsimp only)) | walk1 | (k_unmd; k_unfold; (try dsimp only)) | (dsimp only; first | (k_unfold; (try dsimp only)) | walk1)))))
      exact RangeHead.mk (by k_asm) (by k_asm) (by k_asm) ⟨_, _, rfl⟩ (small4 hk) (size4 _)
    case j0 =>
      refine ⟨b1, rfl, ?_, fun _ _ => rfl⟩
      rw [hb1, hP]; rfl
    case done =>
      intro s2 m1 nx h4 tk4 hon hJ F4 N4
      obtain ⟨bi, rfl, hbi, hz⟩ := hJ
      obtain ⟨_, _, rfl⟩ := hon
      obtain ⟨u, rfl⟩ := map0 _ hz
      have hlen : (rowBody ks ((ks.length + 3) / 4)).length ≤ 66 := by rw [rowBody_length]; omega
      clear hk
      generalize rowBody ks ((ks.length + 3) / 4) = rb at hbi hlen hQ
      refine wpS_any ?_
      (((try dsimp only); (try k_fold); (repeat' (first | (k_unfold; (try dsimp only)) | walk1 | (k_unmd; k_unfold; (try dsimp only)) | (dsimp only; first | (k_unfold; (try dsimp only)) | walk1)))))
      rename KBw.bInts (bi ++ _) = _ => ka
      exact hQ _ _ _ (ka.trans (by rfl)) F4.keep _
    case turn =>
      intro s2 i t2 m1 nx h4 tk4 I oI hi hnI hJ F4 N4 hon
      obtain ⟨bi, rfl, hbi, hz⟩ := hJ
      obtain ⟨_, _, rfl⟩ := hon
      obtain ⟨u, rfl⟩ := map0 _ hz
      simp only [List.cons_append, List.nil_append] at N4
      (((try (k_unfold; (try dsimp only))); refine wpS_plain ?_; (((try dsimp only); (try k_fold); (repeat' (first | (k_unfold; (try dsimp only)) | walk1 | (k_unmd; k_unfold; (try dsimp only)) | (dsimp only; first | (k_unfold; (try dsimp only)) | walk1)))))))
      rename KBw.bInts (KBy.picked _ none _) = _ => hk4
      rw [four_clip (by omega)] at hk4
      have hfl := four_length (ks := ks) (i := i) (by omega)
      (repeat' (first | (k_unfold; (try dsimp only)) | walk1 | (k_unmd; k_unfold; (try dsimp only)) | (dsimp only; first | (k_unfold; (try dsimp only)) | walk1)))
      (((try (k_unfold; (try dsimp only))); refine wpS_plain ?_; (((try dsimp only); (try k_fold); (repeat' (first | (k_unfold; (try dsimp only)) | walk1 | (k_unmd; k_unfold; (try dsimp only)) | (dsimp only; first | (k_unfold; (try dsimp only)) | walk1)))))))
      have mark0 := @Mark.on "for"
      have mark1 := @Mark.on "ref"
      (((try (k_unfold; (try dsimp only))); refine wpS_plain ?_; (((try dsimp only); (try k_fold); (repeat' (first | (k_unfold; (try dsimp only)) | walk1 | (k_unmd; k_unfold; (try dsimp only)) | (dsimp only; first | (k_unfold; (try dsimp only)) | walk1)))))))
      rename Fr _ _ _ _ => F5
      rename News _ _ _ _ => N5
      rename IsRange _ _ _ _ _ _ _ _ => hr5
      unfold Hold
      refine iterR (n := 5) (JS (num (four ks i)) _ _ _) hr5 (by decide) (by decide) rfl F5 N5 ⟨#[], _, rfl, .nil, rfl, fun _ _ _ => rfl⟩ ?_ ?_
      · clear F5 N5 hr5
        rintro j tj m2 nx2 h2 tk2 own hj ho hadr ⟨its, tn, rfl, hin, hm, hz2⟩ F5 N5
        obtain ⟨u2, rfl⟩ := map1 _ hm hz2
        clear hm hz2
        simp only [List.cons_append, List.nil_append] at N5
        replace F5 : Fr s.heap L' h2 _ := F5
        replace N5 : News s.heap L' h2 _ := N5
        (repeat' (first | (k_unfold; (try dsimp only)) | walk1 | (k_unmd; k_unfold; (try dsimp only)) | (dsimp only; first | (k_unfold; (try dsimp only)) | walk1)))
        have hoff : ∀ p ∈ own, p.1 ≠ _ := ho.ne List.mem_cons_self
        refine append_K (by k_asm) (by k_asm) (Upd.head (List.forall_mem_cons.mpr ⟨by k_ne, List.forall_mem_cons.mpr ⟨by k_ne, hoff⟩⟩)) (fun h6 F6 N6 => ?_) ?_
        · clear F5 N5
          (repeat' (first | (k_unfold; (try dsimp only)) | walk1 | (k_unmd; k_unfold; (try dsimp only)) | (dsimp only; first | (k_unfold; (try dsimp only)) | walk1)))
          rename News _ _ _ _ => N7
          exact JS_end hin (by k_asm) N7 (by rfl) (by ((intros; (try simp only [List.mem_cons, List.not_mem_nil, or_false, not_or] at *); first | rfl | simp_all)))
        · rw [Array.size_eq_length_toList, IntsAre.length hin, sg85_length]
          exact Nat.le_trans (Nat.le_of_lt hj) (by decide)
      rintro m2 nx2 h2 tk2 ⟨its, tn, rfl, hin, hm, hz2⟩ F6 N6
      obtain ⟨u2, rfl⟩ := map1 _ hm hz2
      clear F5 N5 hm hz2
      replace F6 : Fr s.heap L' h2 _ := F6
      replace N6 : News s.heap L' h2 _ := N6
      obtain ⟨l⟩ := its
      obtain ⟨t0, t1, t2', t3, t4', rfl⟩ := five_ints hin
      (repeat' (first | (k_unfold; (try dsimp only)) | walk1 | (k_unmd; k_unfold; (try dsimp only)) | (dsimp only; first | (k_unfold; (try dsimp only)) | walk1) | (leave1; (try dsimp only))))
      have N7 : News s.heap L' _ [(_, PySem.W.listOf #[.int (sgn (num (four ks i))) _, .int (sgn ((num (four ks i)).fdiv 85)) _, .int (sgn (((num (four ks i)).fdiv 85).fdiv 85)) _,
        .int (sgn ((((num (four ks i)).fdiv 85).fdiv 85).fdiv 85)) _, .int (sgn (((((num (four ks i)).fdiv 85).fdiv 85).fdiv 85).fdiv 85)) _] 5), (D, baObj bi), (I, oI)] := N6
      clear N6
      have q0 := sgn_in (num (four ks i))
      have q1 := sgn_in ((num (four ks i)).fdiv 85)
      have q2 := sgn_in (((num (four ks i)).fdiv 85).fdiv 85)
      have q3 := sgn_in ((((num (four ks i)).fdiv 85).fdiv 85).fdiv 85)
      have q4 := sgn_in (((((num (four ks i)).fdiv 85).fdiv 85).fdiv 85).fdiv 85)
      have eg : group5 (num (four ks i)) = [sgn (((((num (four ks i)).fdiv 85).fdiv 85).fdiv 85).fdiv 85), sgn ((((num (four ks i)).fdiv 85).fdiv 85).fdiv 85), sgn (((num (four ks i)).fdiv 85).fdiv 85), sgn ((num (four ks i)).fdiv 85), sgn (num (four ks i))] := rfl
      generalize sgn (num (four ks i)) = g0 at N7 q0 eg
      generalize sgn ((num (four ks i)).fdiv 85) = g1 at N7 q1 eg
      generalize sgn (((num (four ks i)).fdiv 85).fdiv 85) = g2 at N7 q2 eg
      generalize sgn ((((num (four ks i)).fdiv 85).fdiv 85).fdiv 85) = g3 at N7 q3 eg
      generalize sgn (((((num (four ks i)).fdiv 85).fdiv 85).fdiv 85).fdiv 85) = g4 at N7 q4 eg
      refine wpS_execs (wpS_aug ?_)
      (((try dsimp only); (try k_fold); (repeat' (first | (k_unfold; (try dsimp only)) | walk1 | (k_unmd; k_unfold; (try dsimp only)) | (dsimp only; first | (k_unfold; (try dsimp only)) | walk1)))))
      have eb : KBw.bInts #[g4.toNat.toUInt8, g3.toNat.toUInt8, g2.toNat.toUInt8, g1.toNat.toUInt8, g0.toNat.toUInt8] = [g4, g3, g2, g1, g0] := by
        have e := KBa.ints_make (ns := [g4, g3, g2, g1, g0]) (by intro x hx; simp only [List.mem_cons, List.not_mem_nil, or_false] at hx; rcases hx with rfl | rfl | rfl | rfl | rfl <;> assumption)
        simpa [byteArr] using e
      have hDI := hnI (D, baObj bi) (by simp)
      refine ba_inplaceK (by k_asm) (by k_asm) (by k_mem) ?_ fun h6 F7 N7 => ?_
      · have e1 := KBw.ints_length bi
        rw [hbi, rowBody_length] at e1
        show bi.size + 5 ≤ _
        omega
      · have N8 := N7 [(D, baObj (bi ++ #[g4.toNat.toUInt8, g3.toNat.toUInt8, g2.toNat.toUInt8, g1.toNat.toUInt8, g0.toNat.toUInt8])), (I, oI)] (by
          intro p hp
          rcases List.mem_cons.mp hp with rfl | hp
          · exact .inl rfl
          · rw [List.mem_singleton.mp hp]
            exact .inr ⟨by k_mem, fun e => hDI e.symm⟩)
        clear N7
        (((try dsimp only); (try k_fold); (repeat' (first | (k_unfold; (try dsimp only)) | walk1 | (k_unmd; k_unfold; (try dsimp only)) | (dsimp only; first | (k_unfold; (try dsimp only)) | walk1)))))
        refine wpS_any (wpAny_execs_nil ?_)
        refine ⟨_, _, _, [(D, baObj (bi ++ #[g4.toNat.toUInt8, g3.toNat.toUInt8, g2.toNat.toUInt8, g1.toNat.toUInt8, g0.toNat.toUInt8]))], _, rfl, by k_asm, by k_asm, by simp, by simp, by simpa using hDI, _, rfl, ?_, ?_⟩
        · rw [rowBody, eg]
          exact KBw.ints_app hbi eb
        · ((intros; (try simp only [List.mem_cons, List.not_mem_nil, or_false, not_or] at *); first | rfl | simp_all))

/-- a row's first octet, or nought -/
noncomputable def firstOf : List Int → Int
  | [] => 0
  | k :: _ => k
/-- how many octets the first sign tells of -/
noncomputable def manyOf (f : Int) : Int := if 65 ≤ f ∧ f ≤ 90 then f - 64 else if 97 ≤ f ∧ f ≤ 122 then f - 70 else 0
theorem manyOf_in (f : Int) : 0 ≤ manyOf f ∧ manyOf f ≤ 52 := by unfold manyOf; split <;> (try split) <;> omega
/-- the signs as ints -/
noncomputable def signsI : List Int := KBw.bInts signs85.toArray
/-- the number that some signs tell -/
noncomputable def num85 : Int → List Int → Option Int
  | n, [] => some n
  | n, k :: r => if 0 ≤ placeI signsI k then num85 (n * 85 + placeI signsI k) r else none
theorem num85_append : ∀ (ks ls : List Int) (n : Int), num85 n (ks ++ ls) = (num85 n ks).bind fun m => num85 m ls
  | [], _, _ => rfl
  | k :: ks, ls, n => by
    simp only [List.cons_append, num85]
    split
    · exact num85_append ks ls _
    · rfl
theorem num85_step {n : Int} {ks : List Int} {i : Nat} {k : Int} (h : num85 0 (ks.take i) = some n) (hk : ks[i]? = some k) (h0 : 0 ≤ placeI signsI k) : num85 0 (ks.take (i + 1)) = some (n * 85 + placeI signsI k) := by
  rw [List.take_add_one, hk, num85_append, h]
  show num85 n [k] = _
  simp only [num85, if_pos h0]
theorem num85_stop {n : Int} {ks : List Int} {i : Nat} {k : Int} (h : num85 0 (ks.take i) = some n) (hk : ks[i]? = some k) (h0 : ¬ 0 ≤ placeI signsI k) : num85 0 ks = none := by
  have hi : i < ks.length := by
    rcases Nat.lt_or_ge i ks.length with q | q
    · exact q
    · rw [List.getElem?_eq_none q] at hk; cases hk
  have e : ks = ks.take i ++ k :: ks.drop (i + 1) := by
    have hk' := List.getElem?_eq_getElem hi
    rw [hk] at hk'
    rw [Option.some.inj hk', List.getElem_cons_drop hi, List.take_append_drop]
  rw [e, num85_append, h]
  simp only [Option.bind_some, num85, if_neg h0]
theorem placeI_le (ks : List Int) (k : Int) : placeI ks k < ks.length ∨ placeI ks k = -1 := by
  unfold placeI
  split
  · rename_i i h
    have := (List.findIdx?_eq_some_iff_findIdx_eq.mp h).1
    left; omega
  · right; rfl
theorem num85_in : ∀ (ks : List Int) (n m : Int), 0 ≤ n → num85 n ks = some m → 0 ≤ m
  | [], n, m, h0, h => by simp only [num85, Option.some.injEq] at h; omega
  | k :: r, n, m, h0, h => by
    simp only [num85] at h
    split at h
    · exact num85_in r _ m (by omega) h
    · cases h
/-- the five signs of the group at i -/
noncomputable def grp (ks : List Int) (i : Nat) : List Int := (ks.drop (1 + 5 * i)).take 5
/-- what i groups tell -/
noncomputable def readG (ks : List Int) : Nat → Option (List Int)
  | 0 => some []
  | i + 1 => match readG ks i with
    | none => none
    | some f => match num85 0 (grp ks i) with
      | none => none
      | some n => if 4294967296 ≤ n then none else some (f ++ be4 n)
theorem readG_none {ks : List Int} {i : Nat} (h : readG ks i = none) : ∀ {n : Nat}, i ≤ n → readG ks n = none
  | 0, hn => by rw [Nat.le_zero.mp hn] at h; exact h
  | n + 1, hn => by
    rcases Nat.lt_or_ge n i with q | q
    · have : i = n + 1 := by omega
      rw [← this]; exact h
    · simp only [readG, readG_none h q]
theorem readG_length {ks : List Int} : ∀ {i : Nat} {f : List Int}, readG ks i = some f → f.length = 4 * i
  | 0, f, h => by simp only [readG, Option.some.injEq] at h; rw [← h]; rfl
  | i + 1, f, h => by
    simp only [readG] at h
    split at h
    · cases h
    · rename_i f0 e
      split at h
      · cases h
      · rename_i n e2
        split at h
        · cases h
        · simp only [Option.some.injEq] at h
          have := readG_length e
          rw [← h, List.length_append, this]
          simp only [be4, List.length_cons, List.length_nil]; omega
/-- what a row tells -/
noncomputable def readOf (ks : List Int) : Option (List Int) :=
  if manyOf (firstOf ks) = 0 ∨ (ks.length : Int) ≠ 1 + (manyOf (firstOf ks) + 3) / 4 * 5 then none
  else (readG ks ((ks.length - 1) / 5)).map (·.take (manyOf (firstOf ks)).toNat)
theorem grp_clip {ks : List Int} {i n : Nat} (hn : ks.length = 1 + 5 * n) (h : i < n) :
    List.take (clipAt ks.length (1 + (i : Int) * 5 + 5) - clipAt ks.length (1 + (i : Int) * 5)) (List.drop (clipAt ks.length (1 + (i : Int) * 5)) ks) = grp ks i := by
  have e1 : (1 + (i : Int) * 5) = ((1 + 5 * i : Nat) : Int) := by omega
  have e2 : (1 + (i : Int) * 5 + 5) = ((1 + 5 * i + 5 : Nat) : Int) := by omega
  rw [e2, e1]
  simp only [clipAt_nat]
  have e4 : min (1 + 5 * i) ks.length = 1 + 5 * i := by omega
  have e5 : min (1 + 5 * i + 5) ks.length = 1 + 5 * i + 5 := by omega
  rw [e4, e5]
  unfold grp
  congr 1
  omega
theorem grp_length {ks : List Int} {i n : Nat} (hn : ks.length = 1 + 5 * n) (h : i < n) : (grp ks i).length = 5 := by
  simp only [grp, List.length_take, List.length_drop]; omega
theorem size5 (n : Nat) : Builtin.Range.rangeSize 1 (n : Int) 5 = (((n - 1 + 4) / 5 : Nat) : Int) := by
  unfold Builtin.Range.rangeSize
  simp
  omega
theorem small5 {n : Nat} (h : n ≤ 66) : Builtin.Range.small 1 (n : Int) 5 = true :=
  (by decide +kernel : ∀ m : Fin 67, Builtin.Range.small 1 ((m.val : Nat) : Int) 5 = true) ⟨n, by omega⟩
theorem nil_ints {b : Array UInt8} {ks : List Int} (hb : KBw.bInts b = ks) (h : (b.toList != #[].toList) = true) : 0 < ks.length := by
  subst hb
  rcases b with ⟨l⟩
  cases l with
  | nil => simp at h
  | cons x l => rw [KBw.ints_length]; simp
theorem firstOf_get {ks : List Int} (h : 0 < ks.length) : firstOf ks = ks.getD 0 0 := by
  cases ks with
  | nil => simp at h
  | cons k r => rfl

section
set_option pp.deepTerms false
set_option pp.maxSteps 1500
theorem c_oct85 (hh : A.handled = none) (B : Below A base outer s.heap) (X : (hd.heap_39 w.params).In s.heap) (T : Top hd.view_39 LO mean mg mb s.heap) (hdp : A.depth + 100 < recursionLimit) (hun : A.units + 300 < cLine)
    {b : Array UInt8} {ks : List Int} {t : Tok} (hb : KBw.bInts b = ks) (hk : ks.length ≤ 4096)
    (hQ : ∀ b' t' h', readOf ks = some (KBw.bInts b') → Keeps s.heap h' → ∀ tk', Q (.bytes b' t') { s with heap := h', toks := tk' })
    (hE : ∀ e h', readOf ks = none → Flew outer s.heap e h' → ∀ tk', E (.ref e) { s with heap := h', toks := tk' }) :
    wpS (model PySem.Challenge.rw_pb0094_01.row.prog w) A (call (.ref 134) [.bytes b t]) Q E s := by
  have mark0 := @Mark.on "for"
  have mark1 := @Mark.on "bytes"
  ((
  (with_reducible rename Frag.In _ _ => mX0); revert mX0; k_fill; intro mX1
  (with_reducible rename Below _ _ _ _ => mB0); (with_reducible rename (Around.handled _ = none) => mh0); (with_reducible rename (Around.depth _ + _ < recursionLimit) => md0); (with_reducible rename (Around.units _ + _ < cLine) => mu0)
  first | refine m_open mh0 mB0 md0 mu0 ?_ | refine s_open mh0 mB0 md0 mu0 ?_
  clear mh0 mB0 md0 mu0
  intro zdp zun zgd mB1 md1 mu1))
  refine' enterS1 (Str.ofString "row") ?s1 ?s2 ?s3 ?s4 ?s5 ?s6 ?s7 ?s8 ?s9 ?s11 ?s12 ?s13 ?s14 ?_
  (((case s1 => k_asm); (case s2 => k_asm); (case s3 => k_asm); (case s4 => first | assumption | exact Led.refl _); (case s5 => k_is); (case s6 => k_is); (case s7 => walk_at "m_rd"); (case s8 => first | exact BindsTo.of_eq rfl | exact binds_K (by k_in) rfl (by k_is) rfl rfl rfl); (case s9 => first | exact rfl | exact locs rfl); (try (case s10 => first | exact rfl | decide +kernel)); (case s11 => exact rfl); (case s12 => exact rfl); (case s13 => exact rfl)))
  case s14 => decide
  intro L' h' tk' F' N'
  refine joinInt (Str.ofString "first") (fun k => k = firstOf ks) F' N' ?_ ?_
  · (((try dsimp only); (try k_fold); (repeat' (first | (k_unfold; (try dsimp only)) | walk1 | (k_unmd; k_unfold; (try dsimp only)) | (dsimp only; first | (k_unfold; (try dsimp only)) | walk1)))))
    · have hz := nil_ints hb (by assumption)
      (repeat' (first | (k_unfold; (try dsimp only)) | walk1 | (k_unmd; k_unfold; (try dsimp only)) | (dsimp only; first | (k_unfold; (try dsimp only)) | walk1)))
      (refine GivesInt_mk (by k_asm) (by (first | k_asm | exact News.nil | (intro p hp; (rename News _ _ _ _ => mN); exact mN p (by simp_all)))) ⟨_, _, rfl⟩ ?_)
      exact (firstOf_get hz).symm
    · (refine GivesInt_mk (by k_asm) (by (first | k_asm | exact News.nil | (intro p hp; (rename News _ _ _ _ => mN); exact mN p (by simp_all)))) ⟨_, _, rfl⟩ ?_)
      have e : ks = [] := by
        have h9 : (b.toList != #[].toList) = false := by assumption
        rcases b with ⟨l⟩
        cases l with
        | nil => exact hb.symm
        | cons x l => simp at h9
      rw [e]; rfl
  · intro k1 t1 h1 tk1 e1 F1 N1
    clear F' N'
    refine joinInt (Str.ofString "many") (fun k => k = manyOf k1) F1 N1 ?_ ?_
    · (((try dsimp only); (try k_fold); (repeat' (first | (k_unfold; (try dsimp only)) | walk1 | (k_unmd; k_unfold; (try dsimp only)) | (dsimp only; first | (k_unfold; (try dsimp only)) | walk1)))))
      all_goals ((refine GivesInt_mk (by k_asm) (by (first | k_asm | exact News.nil | (intro p hp; (rename News _ _ _ _ => mN); exact mN p (by simp_all)))) ⟨_, _, rfl⟩ ?_); unfold manyOf; (repeat' split) <;> omega)
    intro k2 t2 h2 tk2 e2 F2 N2
    clear F1 N1
    have hin := manyOf_in k1
    (((try (k_unfold; (try dsimp only))); refine wpS_plain ?_; (((try dsimp only); (try k_fold); (repeat' (first | (k_unfold; (try dsimp only)) | walk1 | (k_unmd; k_unfold; (try dsimp only)) | (dsimp only; first | (k_unfold; (try dsimp only)) | walk1)))))))
    · refine hE _ _ ?_ (by assumption) _
      unfold readOf; rw [← e1, ← e2, if_pos (.inl (by assumption))]
    · refine hE _ _ ?_ (by assumption) _
      unfold readOf; rw [← e1, ← e2, if_pos (.inr (by rw [← Int.fdiv_eq_ediv_of_nonneg _ (by decide : (0 : Int) ≤ 4)]; assumption))]
    · rename (ks.length : Int) = 1 + Int.fdiv _ 4 * 5 => hlen
      have hne : k2 ≠ 0 := by assumption
      rw [Int.fdiv_eq_ediv_of_nonneg _ (by decide : (0 : Int) ≤ 4)] at hlen
      obtain ⟨n, hn⟩ : ∃ n : Nat, ks.length = 1 + 5 * n ∧ (n : Int) = (k2 + 3) / 4 ∧ n ≤ 13 := ⟨((k2 + 3) / 4).toNat, by omega, by omega, by omega⟩
      have eR : readOf ks = (readG ks n).map (·.take k2.toNat) := by
        unfold readOf
        rw [← e1, ← e2, if_neg (by intro q; rcases q with q | q <;> omega), show (ks.length - 1) / 5 = n by omega]
      replace hn := And.intro hn.1 hn.2.2
      clear hk hlen
      have hk66 : ks.length ≤ 66 := by omega
      rename Fr _ _ _ _ => F3
      rename News _ _ _ _ => N3
      refine wpS_execs (wpS_assign (wpS_Call ?_) (by rfl))
      (((try dsimp only); (try k_fold); (repeat' (first | (k_unfold; (try dsimp only)) | walk1 | (k_unmd; k_unfold; (try dsimp only)) | (dsimp only; first | (k_unfold; (try dsimp only)) | walk1)))))
      refine wpS_callT0 (ba_call_0K (by k_asm) (by k_asm) fun D h4 _ F4 N4 => ?_)
      (((try dsimp only); (try k_fold); (repeat' (first | (k_unfold; (try dsimp only)) | walk1 | (k_unmd; k_unfold; (try dsimp only)) | (dsimp only; first | (k_unfold; (try dsimp only)) | walk1)))))
      rename Fr _ _ _ _ => F5
      rename News _ _ _ _ => N5
      refine wpS_execs (wpS_For (h₀ := s.heap) (m₀ := fun y => if y = Str.ofString "found" then some (Value.ref D) else if y = Str.ofString "many" then some (.int k2 t2) else if y = Str.ofString "first" then some (.int k1 t1) else if y = Str.ofString "row" then some (.bytes b t) else none) (news := [(D, baObj #[])]) (n := n) (a₀ := 1) (c₀ := 5)
        (fun i m nx => ∃ bi, nx = [(D, baObj bi)] ∧ readG ks i = some (KBw.bInts bi) ∧ ∀ z, z ∉ [Str.ofString "at", Str.ofString "number", Str.ofString "sign", Str.ofString "place"] → m z = (fun y => if y = Str.ofString "found" then some (Value.ref D) else if y = Str.ofString "many" then some (.int k2 t2) else if y = Str.ofString "first" then some (.int k1 t1) else if y = Str.ofString "row" then some (.bytes b t) else none) z) rfl (by passes_own) rfl rfl ?turn ?done ?j0 ?head (by intro _; rfl))
      case head =>
        (((try dsimp only); (try k_fold); (repeat' (first | (k_unfold; (try dsimp only)) | walk1 | (k_unmd; k_unfold; (try dsimp only)) | (dsimp only; first | (k_unfold; (try dsimp only)) | walk1)))))
        exact RangeHead.mk (by k_asm) (by k_asm) (by k_asm) ⟨_, _, rfl⟩ (small5 (by omega)) ((size5 _).trans (by omega))
      case j0 => exact ⟨#[], rfl, rfl, fun _ _ => rfl⟩
      case done =>
        intro s2 m1 nx h6 tk6 hon hJ F6 N6
        obtain ⟨bi, rfl, hbi, hz⟩ := hJ
        obtain ⟨_, _, rfl⟩ := hon
        obtain ⟨u, rfl⟩ := map0 _ hz
        have hl6 := readG_length hbi
        have hki : KBw.bInts bi = KBw.bInts bi := rfl
        refine wpS_any ?_
        (((try dsimp only); (try k_fold); (repeat' (first | (k_unfold; (try dsimp only)) | walk1 | (k_unmd; k_unfold; (try dsimp only)) | (dsimp only; first | (k_unfold; (try dsimp only)) | walk1)))))
        rename KBw.bInts (KBy.picked bi none _) = _ => hkP
        refine hQ _ _ _ ?_ (Fr.keep (by k_asm)) _
        have ek : k2 = ((k2.toNat : Nat) : Int) := by omega
        rw [eR, hbi, hkP]
        show some (List.take k2.toNat (KBw.bInts bi)) = _
        congr 1
        rw [ek, clipAt_nat]
        simp only [Int.toNat_natCast]
        rcases Nat.le_total k2.toNat (KBw.bInts bi).length with q | q
        · rw [Nat.min_eq_left q]
        · rw [Nat.min_eq_right q, List.take_of_length_le q, List.take_of_length_le (Nat.le_refl _)]
      case turn =>
        intro s2 i t3 m1 nx h6 tk6 I oI hi hnI hJ F6 N6 hon
        obtain ⟨bi, rfl, hbi, hz⟩ := hJ
        obtain ⟨_, _, rfl⟩ := hon
        obtain ⟨u, rfl⟩ := map0 _ hz
        simp only [List.cons_append, List.nil_append] at N6
        (((try (k_unfold; (try dsimp only))); refine wpS_plain ?_; (((try dsimp only); (try k_fold); (repeat' (first | (k_unfold; (try dsimp only)) | walk1 | (k_unmd; k_unfold; (try dsimp only)) | (dsimp only; first | (k_unfold; (try dsimp only)) | walk1)))))))
        (((try (k_unfold; (try dsimp only))); refine wpS_plain ?_; (((try dsimp only); (try k_fold); (repeat' (first | (k_unfold; (try dsimp only)) | walk1 | (k_unmd; k_unfold; (try dsimp only)) | (dsimp only; first | (k_unfold; (try dsimp only)) | walk1)))))))
        rename KBw.bInts (KBy.picked b _ _) = _ => hkP
        rw [grp_clip hn.1 hi] at hkP
        have hgl := grp_length hn.1 hi
        rename Fr _ _ _ _ => F7
        rename News _ _ _ _ => N7
        unfold Hold
        have hstop : num85 0 (grp ks i) = none → readOf ks = none := fun q => by
          rw [eR, readG_none (i := i + 1) (n := n) (by simp only [readG, hbi, q]) hi]; rfl
        have hbig : ∀ a, num85 0 (grp ks i) = some a → 4294967296 ≤ a → readOf ks = none := fun a q q2 => by
          rw [eR, readG_none (i := i + 1) (n := n) (by simp only [readG, hbi, q]; rw [if_pos q2]) hi]; rfl
        refine iterB1 (Str.ofString "number") [Str.ofString "sign", Str.ofString "place"] (fun (a : Int) t => Value.int a t) (fun j a => num85 0 ((grp ks i).take j) = some a) hkP rfl F7 N7 (by rfl) (by rfl) ?_ ?_
        · clear F7 N7
          intro j k t' a ta u' h tk own hj h0 h1 ho hp F8 N8
          have ek : (((k.toNat.toUInt8).toNat : Nat) : Int) = k := by
            have e := KBa.ints_make (ns := [k]) (by intro x hx; rw [List.mem_singleton.mp hx]; exact ⟨h0, h1⟩)
            simpa [byteArr, KBw.bInts] using e
          (repeat' (first | (k_unfold; (try dsimp only)) | walk1 | (k_unmd; k_unfold; (try dsimp only)) | (dsimp only; first | (k_unfold; (try dsimp only)) | walk1)))
          · have hneg : ¬ 0 ≤ placeI signsI k := by
              rw [← ek]
              exact Int.not_le.mpr ‹placeI _ _ < 0›
            exact hE _ _ (hstop (num85_stop hp hj hneg)) (by assumption) _
          · have hpos : 0 ≤ placeI signsI k := by
              rw [← ek]
              first | exact ‹0 ≤ placeI _ _› | exact Int.not_lt.mp ‹¬ placeI _ _ < 0›
            have hst := num85_step hp hj hpos
            rw [← ek] at hst
            exact inv_end1 hst (by k_asm) (by k_asm) (by ((intro p hp; first | exact absurd hp List.not_mem_nil | (simp [hp]; done) | (simp only [List.mem_append, List.mem_cons, List.not_mem_nil, or_false, false_or] at *; simp_all)))) (by ((intro p hp; first | exact absurd hp List.not_mem_nil | (simp [hp]; done) | (simp only [List.mem_append, List.mem_cons, List.not_mem_nil, or_false, false_or] at *; simp_all)))) (by rfl) (by ((intros; (try simp only [List.mem_cons, List.not_mem_nil, or_false, not_or] at *); first | rfl | simp_all)))
        · clear F7 N7
          intro a t' u' h tk hp F8 N8
          replace F8 : Fr s.heap L' h _ := F8
          replace N8 : News s.heap L' h _ := N8
          rw [List.take_length] at hp
          have ha0 := num85_in _ _ _ (by decide) hp
          (repeat' (first | (k_unfold; (try dsimp only)) | walk1 | (k_unmd; k_unfold; (try dsimp only)) | (dsimp only; first | (k_unfold; (try dsimp only)) | walk1)))
          have e32 : (1 : Int) * 2 ^ Int.toNat 32 = 4294967296 := by decide
          (((try (k_unfold; (try dsimp only))); refine wpS_plain ?_; (((try dsimp only); (try k_fold); (repeat' (first | (k_unfold; (try dsimp only)) | walk1 | (k_unmd; k_unfold; (try dsimp only)) | (dsimp only; first | (k_unfold; (try dsimp only)) | walk1)))))))
          · rename (1 : Int) * 2 ^ _ ≤ _ => q32
            rw [e32] at q32
            exact hE _ _ (hbig a hp q32) (by assumption) _
          · have q32 : a < 4294967296 := by
              have q : ¬ (1 : Int) * 2 ^ Int.toNat 32 ≤ a := by first | assumption | (rw [Int.not_le]; assumption)
              rw [e32] at q
              omega
            refine wpS_execs (wpS_aug ?_)
            (((try dsimp only); (try k_fold); (repeat' (first | (k_unfold; (try dsimp only)) | walk1 | (k_unmd; k_unfold; (try dsimp only)) | (dsimp only; first | (k_unfold; (try dsimp only)) | walk1)))))
            rename KBw.bInts _ = be4 a => eb
            rename Array UInt8 => bo
            have hDI := hnI (D, baObj bi) (by simp)
            refine ba_inplaceK (by k_asm) (by k_asm) (by k_mem) ?_ fun h6 F9 N9 => ?_
            · have q1 := KBw.ints_length bi
              have q2 := readG_length hbi
              have q3 := KBw.ints_length bo
              rw [eb] at q3
              have q4 : (be4 a).length = 4 := rfl
              omega
            · have N10 := N9 [(D, baObj (bi ++ bo)), (I, oI)] (by
                intro p hp
                rcases List.mem_cons.mp hp with rfl | hp
                · exact .inl rfl
                · rw [List.mem_singleton.mp hp]
                  exact .inr ⟨by k_mem, fun e => hDI e.symm⟩)
              clear N9
              (((try dsimp only); (try k_fold); (repeat' (first | (k_unfold; (try dsimp only)) | walk1 | (k_unmd; k_unfold; (try dsimp only)) | (dsimp only; first | (k_unfold; (try dsimp only)) | walk1)))))
              refine wpS_any (wpAny_execs_nil ?_)
              refine ⟨_, _, _, [(D, baObj (bi ++ bo))], _, rfl, by k_asm, by k_asm, by simp, by simp, by simpa using hDI, _, rfl, ?_, ?_⟩
              · simp only [readG, hbi, hp]
                rw [if_neg (by omega), KBw.ints_app rfl eb]
              · ((intros; (try simp only [List.mem_cons, List.not_mem_nil, or_false, not_or] at *); first | rfl | simp_all))
end

section
variable {prog : Program} {A : Around} {E : Value → Shared → Prop} {s : Shared} {env : Env}
theorem wpS_Try {body : List Stmt} {h₀ : ExceptHandler} {hs : List ExceptHandler} {pos : Pos} {Q : Flow → Shared → Prop}
    (h : wpS (model prog w) A (execs body env) Q
      (fun e s₁ => wpAny (model prog w) A (noteFrame e env) (fun _ s₂ => wpAny (model prog w) A (setFlight e none) (fun _ s₃ => wpAny (model prog w) A (handleBy e env (h₀ :: hs)) Q E s₃) E s₂) E s₁) s) :
    wpS (model prog w) A (exec (.Try body (h₀ :: hs) [] [] pos) env) Q E s := by
  rw [arm_exec_Try]
  refine wpS_first (wpAny_standAt ?_)
  unfold tryStmt
  simp only [List.isEmpty_nil, if_true, List.isEmpty_cons, Bool.false_and, Bool.false_eq_true, if_false]
  refine wpS_bind (wpS_attempt (wpS_mono h (fun f s₁ h₁ => ?_) fun e s₁ h₁ => ?_))
  · cases f with
    | next => exact wpS_any (wpAny_execs_nil h₁)
    | _ => exact wpS_pure h₁
  · exact wpS_any (wpAny_bind (wpAny_mono h₁ (fun _ _ h₂ => wpAny_bind h₂) fun _ _ x => x))
end
section
variable {s' : Shared} {g h : Heap} {L a e : Addr} {m : Str → Option Value} {name : Str} {scope : Scope} {cd : Value} {b₀ : Stmt} {suite : List Stmt} {pos np : Pos} {rest : List ExceptHandler} {Qf : Flow → Shared → Prop} {news : List (Addr × Obj)}
/-- a BadPatch that has flown in is caught: the ground goes on as g' -/
theorem caughtX (K : Below A base outer g) (F : Fr g L h m) (R : Flew (envOf name scope L a cd :: outer) h e s'.heap) (XB : (hd.heap_39 w.params).In base) (TB : Top hd.view_39 LO mean mg mb base)
    (k : ∀ h' g', KtsTurn (frs outer) g g' → Fr g' L h' m →
      wpAny (model PySem.Challenge.rw_pb0094_01.row.prog w) ((A.deeper (envOf name scope L a cd)).mark (some (.ref e))) (execs (b₀ :: suite) (envOf name scope L a cd)) Qf (fun _ _ => False) { s' with heap := h' })
    (hk : scope.kind = .function := by rfl) (hx : (envOf name scope L a cd).kindOf (Str.ofString "BadPatch") = some .globalImplicit := by rfl) :
    wpAny (model PySem.Challenge.rw_pb0094_01.row.prog w) (A.deeper (envOf name scope L a cd)) (noteFrame (.ref e) (envOf name scope L a cd))
      (fun _ s₂ => wpAny (model PySem.Challenge.rw_pb0094_01.row.prog w) (A.deeper (envOf name scope L a cd)) (setFlight (.ref e) none) (fun _ s₃ =>
        wpAny (model PySem.Challenge.rw_pb0094_01.row.prog w) (A.deeper (envOf name scope L a cd)) (handleBy (.ref e) (envOf name scope L a cd) (.ExceptHandler (some (.Name (Str.ofString "BadPatch") np)) none (b₀ :: suite) pos :: rest)) Qf E s₃) E s₂) E s' := by
  obtain ⟨⟨a0, hfl⟩, hsm⟩ := R
  have hBG : ∀ b o, h.get? b = some o → b ∉ (envOf name scope L a cd :: outer).filterMap (·.frame) → (hideAll h (frs (envOf name scope L a cd :: outer))).get? b = some o := fun b o q nm => hideAll_get _ q nm
  refine wpAny_looks_onW (Around.frames_deeper K.stack) rfl hfl fun h₄ hheld₄ hsm₄ => ?_
  refine wpAny_landsW hheld₄ fun h₅ hheld hsm₅' => ?_
  have hsm₅ := hsm₄.trans hsm₅'
  obtain ⟨g₅, T₅, F₅, K₅⟩ := kts_ground K F hBG hheld.1 (hsm.trans hsm₅)
  have X₅ : (hd.heap_39 w.params).In g₅ := XB.keeps K₅.stays
  have P₅ : TopRead hd.view_39 LO mg mb g₅ := topRead_of (TB.keeps K₅.stays)
  obtain ⟨ob, hob, hobc⟩ := hheld.there
  have X₆ : (hd.heap_39 w.params).In h₅ := X₅.keeps F₅.keep
  revert X₅ X₆
  k_fill
  intro X₅ X₆
  refine wpAny_handleBy_cons (codeAny_handlers_test (name_K (v := .ref 57) F₅ X₅ P₅ (by k_is) ?_ hk hx (by decide))) (by intro q; cases q)
  have hC := X₆ 57 _ (by k_is)
  refine wpAny_excMatches_sub_self hC hob hobc (by decide +kernel) (codeAny_handlers_suite ?_)
  refine lands_againW hheld fun h₆ hfl₆ hsm₆ => ?_
  obtain ⟨g₆, T₆, F₆, K₆⟩ := kts_ground K F hBG hfl₆.1 ((hsm.trans hsm₅).trans hsm₆)
  exact wpAny_mono (k h₆ g₆ T₆ F₆) (fun _ _ q => q) fun _ _ q => q.elim
end

section
set_option pp.deepTerms false
set_option pp.maxSteps 1500
theorem c_hrow (hh : A.handled = none) (B : Below A base outer s.heap) (XB : (hd.heap_39 w.params).In base) (TB : Top hd.view_39 LO mean mg mb base) (hdp : A.depth + 120 < recursionLimit) (hun : A.units + 360 < cLine)
    {b : Array UInt8} {ks : List Int} {t tx : Tok} (hb : KBw.bInts b = ks) (hk : ks.length ≤ 4096)
    (hS : ∀ b' t' h', readOf ks = some (KBw.bInts b') → Keeps s.heap h' → ∀ tk', Q (.bytes b' t') { s with heap := h', toks := tk' })
    (hN : ∀ h', readOf ks = none → KeepsU outer s.heap h' → ∀ tk', Q .none { s with heap := h', toks := tk' }) :
    wpS (model PySem.Challenge.rw_pb0094_01.row.prog w) A (call (.ref 197) [.str (Str.ofString "row") tx, .bytes b t]) Q E s := by
  have X := XB.keeps B.stays
  have T := TB.keeps B.stays
  ((
  (with_reducible rename Frag.In _ _ => mX0); revert mX0; k_fill; intro mX1
  (with_reducible rename Below _ _ _ _ => mB0); (with_reducible rename (Around.handled _ = none) => mh0); (with_reducible rename (Around.depth _ + _ < recursionLimit) => md0); (with_reducible rename (Around.units _ + _ < cLine) => mu0)
  first | refine m_open mh0 mB0 md0 mu0 ?_ | refine s_open mh0 mB0 md0 mu0 ?_
  clear mh0 mB0 md0 mu0
  intro zdp zun zgd mB1 md1 mu1))
  refine' enterS2 (Str.ofString "word") (Str.ofString "octets") (by decide) ?s1 ?s2 ?s3 ?s4 ?s5 ?s6 ?s7 ?s8 ?s9 ?s10 ?s11 ?s12 ?s13 ?s14 ?_
  (((case s1 => k_asm); (case s2 => k_asm); (case s3 => k_asm); (case s4 => first | assumption | exact Led.refl _); (case s5 => k_is); (case s6 => k_is); (case s7 => walk_at "m_rd"); (case s8 => first | exact BindsTo.of_eq rfl | exact binds_K (by k_in) rfl (by k_is) rfl rfl rfl); (case s9 => first | exact rfl | exact locs rfl); (try (case s10 => first | exact rfl | decide +kernel)); (case s11 => exact rfl); (case s12 => exact rfl); (case s13 => exact rfl)))
  case s14 => decide
  intro L' h' tk' F' N'
  (((try (k_unfold; (try dsimp only))); refine wpS_plain ?_; (((try dsimp only); (try k_fold); (repeat' (first | (k_unfold; (try dsimp only)) | walk1 | (k_unmd; k_unfold; (try dsimp only)) | (dsimp only; first | (k_unfold; (try dsimp only)) | walk1)))))))
  rename Fr _ _ _ _ => F1
  rename News _ _ _ _ => N1
  refine wpS_execs (wpS_Try _ (wpS_execs (wpS_If (wpS_any ?_))))
  (((try dsimp only); (try k_fold); (repeat' (first | (k_unfold; (try dsimp only)) | walk1 | (k_unmd; k_unfold; (try dsimp only)) | (dsimp only; first | (k_unfold; (try dsimp only)) | walk1)))))
  refine wpS_execs (wpS_assign (wpS_Call ?_) (by rfl))
  (((try dsimp only); (try k_fold); (repeat' (first | (k_unfold; (try dsimp only)) | walk1 | (k_unmd; k_unfold; (try dsimp only)) | (dsimp only; first | (k_unfold; (try dsimp only)) | walk1)))))
  refine wpS_callK (K := hd.heap_39 w.params) (by revert XB; k_fill; intro _; k_is) ?_ (by rfl) (by rfl)
  (((try dsimp only); (try k_fold); (repeat' (first | (k_unfold; (try dsimp only)) | walk1 | (k_unmd; k_unfold; (try dsimp only)) | (dsimp only; first | (k_unfold; (try dsimp only)) | walk1)))))
  refine c_oct85 w rfl (by walk_at "m_B") (by walk_at "m_X") (by walk_at "m_T") (by walk_at "m_rd") (by walk_at "m_ru") hb hk ?_ ?_
  · intro b' t' h' hr hkp tk'
    (((with_reducible rename Fr _ _ _ _ => mF); (with_reducible rename News _ _ _ _ => mN); (with_reducible rename Keeps _ _ => mK); (have zF := Fr.keptAll mF mK); (have zN := News.grown mN mK); clear mN mF mK; (try dsimp only); (try k_fold)))
    (((try dsimp only); (try k_fold); (repeat' (first | (k_unfold; (try dsimp only)) | walk1 | (k_unmd; k_unfold; (try dsimp only)) | (dsimp only; first | (k_unfold; (try dsimp only)) | walk1)))))
    repeat (refine wpS_any ?_; (((try dsimp only); (try k_fold); (repeat' (first | (k_unfold; (try dsimp only)) | walk1 | (k_unmd; k_unfold; (try dsimp only)) | (dsimp only; first | (k_unfold; (try dsimp only)) | walk1))))))
    exact hS _ _ _ hr (Fr.keep (by k_asm)) _
  · intro e h' hn hfl tk'
    rename Fr _ _ _ _ => F2
    refine caughtX w (by k_asm) F2 hfl XB TB fun h4 g4 T4 F4 => ?_
    (((try dsimp only); (try k_fold); (repeat' (first | (k_unfold; (try dsimp only)) | walk1 | (k_unmd; k_unfold; (try dsimp only)) | (dsimp only; first | (k_unfold; (try dsimp only)) | walk1)))))
    repeat (refine wpS_any ?_; (((try dsimp only); (try k_fold); (repeat' (first | (k_unfold; (try dsimp only)) | walk1 | (k_unmd; k_unfold; (try dsimp only)) | (dsimp only; first | (k_unfold; (try dsimp only)) | walk1))))))
    exact hN _ hn ⟨g4, T4, Fr.keep (by k_asm)⟩ _
end

section
set_option pp.deepTerms false
set_option pp.maxSteps 1500
theorem c_hrange (hh : A.handled = none) (B : Below A base outer s.heap) (XB : (hd.heap_39 w.params).In base) (TB : Top hd.view_39 LO mean mg mb base) (hdp : A.depth + 100 < recursionLimit) (hun : A.units + 300 < cLine)
    {b : Array UInt8} {ks : List Int} {t tx : Tok} (hb : KBw.bInts b = ks) (hk : ks.length ≤ 4096)
    (hS : ∀ D h', rangeOf ks ≠ none → Keeps s.heap h' → ∀ tk', Q (.ref D) { s with heap := h', toks := tk' })
    (hN : ∀ h', rangeOf ks = none → KeepsU outer s.heap h' → ∀ tk', Q .none { s with heap := h', toks := tk' }) :
    wpAny (model PySem.Challenge.rw_pb0094_01.row.prog w) A (call (.ref 197) [.str (Str.ofString "range") tx, .bytes b t]) Q E s := by
  have mark0 := @Mark.on "try"
  have mark1 := @Mark.on "call"
  have X := XB.keeps B.stays
  have T := TB.keeps B.stays
  ((((
  (with_reducible rename Frag.In _ _ => mX0); revert mX0; k_fill; intro mX1
  (with_reducible rename Below _ _ _ _ => mB0); (with_reducible rename (Around.handled _ = none) => mh0); (with_reducible rename (Around.depth _ + _ < recursionLimit) => md0); (with_reducible rename (Around.units _ + _ < cLine) => mu0)
  first | refine m_open mh0 mB0 md0 mu0 ?_ | refine s_open mh0 mB0 md0 mu0 ?_
  clear mh0 mB0 md0 mu0
  intro zdp zun zgd mB1 md1 mu1)); (first
  | (refine' enterP ?s1x27x28 ?s2x27x28 ?s3x27x28 ?s4x27x28 ?s5x27x28 ?s6x27x28 ?s7x27x28 ?s8x27x28 ?s9x27x28 ?_ ?s11x27x28 ?s12x27x28 ?s13x27x28 ?s14x27x28; (((case s1x27x28 => k_asm); (case s2x27x28 => k_asm); (case s3x27x28 => k_asm); (case s4x27x28 => first | assumption | exact Led.refl _); (case s5x27x28 => k_is); (case s6x27x28 => k_is); (case s7x27x28 => walk_at "m_rd"); (case s8x27x28 => first | exact BindsTo.of_eq rfl | exact binds_K (by k_in) rfl (by k_is) rfl rfl rfl); (case s9x27x28 => first | exact rfl | exact locs rfl); (try (case s10x27x28 => first | exact rfl | decide +kernel)); (case s11x27x28 => exact rfl); (case s12x27x28 => exact rfl); (case s13x27x28 => exact rfl))); (case s14x27x28 => decide); k_whole; intro zL zh zF zN; (try dsimp only); (try k_fold))
  | (refine' enterC ?s1x27x28 ?s2x27x28 ?s3x27x28 ?s4x27x28 ?s5x27x28 ?s6x27x28 ?s7x27x28 ?s8x27x28 ?s9x27x28 ?s10x27x28 ?_ ?s11x27x28 ?s12x27x28 ?s13x27x28; (((case s1x27x28 => k_asm); (case s2x27x28 => k_asm); (case s3x27x28 => k_asm); (case s4x27x28 => first | assumption | exact Led.refl _); (case s5x27x28 => k_is); (case s6x27x28 => k_is); (case s7x27x28 => walk_at "m_rd"); (case s8x27x28 => first | exact BindsTo.of_eq rfl | exact binds_K (by k_in) rfl (by k_is) rfl rfl rfl); (case s9x27x28 => first | exact rfl | exact locs rfl); (try (case s10x27x28 => first | exact rfl | decide +kernel)); (case s11x27x28 => exact rfl); (case s12x27x28 => exact rfl); (case s13x27x28 => exact rfl))); k_whole; intro zL zh ztk zcells zF zN zY zl; (try k_lt zl); k_cells zY; (try simp only [List.cons_append, List.nil_append] at zN); (try dsimp only); (try k_fold)))))
  (repeat' (first | (k_unfold; (try dsimp only)) | walk1 | (k_unmd; k_unfold; (try dsimp only)) | (dsimp only; first | (k_unfold; (try dsimp only)) | walk1)))
  unfold Hold
  refine wpAny_Try_except ?_
  (repeat' (first | (k_unfold; (try dsimp only)) | walk1 | (k_unmd; k_unfold; (try dsimp only)) | (dsimp only; first | (k_unfold; (try dsimp only)) | walk1)))
  unfold Hold
  refine c_range w rfl (by walk_at "m_B") (by walk_at "m_X") (by walk_at "m_T") (by walk_at "m_rd") (by walk_at "m_ru") hb hk ?_ ?_
  · intro x y tx ty D h' hr hkp _ _ tk'
    (((with_reducible rename Fr _ _ _ _ => mF); (with_reducible rename News _ _ _ _ => mN); (with_reducible rename Keeps _ _ => mK); (have zF := Fr.keptAll mF mK); (have zN := News.grown mN mK); clear mN mF mK; (try dsimp only); (try k_fold)))
    (repeat' (first | (k_unfold; (try dsimp only)) | walk1 | (k_unmd; k_unfold; (try dsimp only)) | (dsimp only; first | (k_unfold; (try dsimp only)) | walk1)))
    exact hS _ _ (by rw [hr]; simp) (Fr.keep (by k_asm)) _
  · intro e h' hn hfl tk'
    rename Fr _ _ _ _ => F2
    refine caughtX w (by k_asm) F2 hfl XB TB fun h4 g4 T4 F4 => ?_
    (((try dsimp only); (try k_fold); (repeat' (first | (k_unfold; (try dsimp only)) | walk1 | (k_unmd; k_unfold; (try dsimp only)) | (dsimp only; first | (k_unfold; (try dsimp only)) | walk1)))))
    exact hN _ hn ⟨g4, T4, Fr.keep (by k_asm)⟩ _
theorem c_hmode (hh : A.handled = none) (B : Below A base outer s.heap) (XB : (hd.heap_39 w.params).In base) (TB : Top hd.view_39 LO mean mg mb base) (hdp : A.depth + 100 < recursionLimit) (hun : A.units + 300 < cLine)
    {b : Array UInt8} {ks : List Int} {t tx : Tok} (hb : KBw.bInts b = ks) (hk : ks.length ≤ 4096)
    (hS : ∀ n t' h', modeOf ks = some n → Keeps s.heap h' → ∀ tk', Q (.int n t') { s with heap := h', toks := tk' })
    (hN : ∀ h', modeOf ks = none → KeepsU outer s.heap h' → ∀ tk', Q .none { s with heap := h', toks := tk' }) :
    wpAny (model PySem.Challenge.rw_pb0094_01.row.prog w) A (call (.ref 197) [.str (Str.ofString "mode") tx, .bytes b t]) Q E s := by
  have mark0 := @Mark.on "try"
  have mark1 := @Mark.on "call"
  have X := XB.keeps B.stays
  have T := TB.keeps B.stays
  ((((
  (with_reducible rename Frag.In _ _ => mX0); revert mX0; k_fill; intro mX1
  (with_reducible rename Below _ _ _ _ => mB0); (with_reducible rename (Around.handled _ = none) => mh0); (with_reducible rename (Around.depth _ + _ < recursionLimit) => md0); (with_reducible rename (Around.units _ + _ < cLine) => mu0)
  first | refine m_open mh0 mB0 md0 mu0 ?_ | refine s_open mh0 mB0 md0 mu0 ?_
  clear mh0 mB0 md0 mu0
  intro zdp zun zgd mB1 md1 mu1)); (first
  | (refine' enterP ?s1x29x30 ?s2x29x30 ?s3x29x30 ?s4x29x30 ?s5x29x30 ?s6x29x30 ?s7x29x30 ?s8x29x30 ?s9x29x30 ?_ ?s11x29x30 ?s12x29x30 ?s13x29x30 ?s14x29x30; (((case s1x29x30 => k_asm); (case s2x29x30 => k_asm); (case s3x29x30 => k_asm); (case s4x29x30 => first | assumption | exact Led.refl _); (case s5x29x30 => k_is); (case s6x29x30 => k_is); (case s7x29x30 => walk_at "m_rd"); (case s8x29x30 => first | exact BindsTo.of_eq rfl | exact binds_K (by k_in) rfl (by k_is) rfl rfl rfl); (case s9x29x30 => first | exact rfl | exact locs rfl); (try (case s10x29x30 => first | exact rfl | decide +kernel)); (case s11x29x30 => exact rfl); (case s12x29x30 => exact rfl); (case s13x29x30 => exact rfl))); (case s14x29x30 => decide); k_whole; intro zL zh zF zN; (try dsimp only); (try k_fold))
  | (refine' enterC ?s1x29x30 ?s2x29x30 ?s3x29x30 ?s4x29x30 ?s5x29x30 ?s6x29x30 ?s7x29x30 ?s8x29x30 ?s9x29x30 ?s10x29x30 ?_ ?s11x29x30 ?s12x29x30 ?s13x29x30; (((case s1x29x30 => k_asm); (case s2x29x30 => k_asm); (case s3x29x30 => k_asm); (case s4x29x30 => first | assumption | exact Led.refl _); (case s5x29x30 => k_is); (case s6x29x30 => k_is); (case s7x29x30 => walk_at "m_rd"); (case s8x29x30 => first | exact BindsTo.of_eq rfl | exact binds_K (by k_in) rfl (by k_is) rfl rfl rfl); (case s9x29x30 => first | exact rfl | exact locs rfl); (try (case s10x29x30 => first | exact rfl | decide +kernel)); (case s11x29x30 => exact rfl); (case s12x29x30 => exact rfl); (case s13x29x30 => exact rfl))); k_whole; intro zL zh ztk zcells zF zN zY zl; (try k_lt zl); k_cells zY; (try simp only [List.cons_append, List.nil_append] at zN); (try dsimp only); (try k_fold)))))
  (repeat' (first | (k_unfold; (try dsimp only)) | walk1 | (k_unmd; k_unfold; (try dsimp only)) | (dsimp only; first | (k_unfold; (try dsimp only)) | walk1)))
  unfold Hold
  refine wpAny_Try_except ?_
  (repeat' (first | (k_unfold; (try dsimp only)) | walk1 | (k_unmd; k_unfold; (try dsimp only)) | (dsimp only; first | (k_unfold; (try dsimp only)) | walk1)))
  unfold Hold
  refine c_tmode w rfl (by walk_at "m_B") (by walk_at "m_X") (by walk_at "m_T") (by walk_at "m_rd") (by walk_at "m_ru") hb hk ?_ ?_
  · intro n t' h' hr hkp tk'
    (((with_reducible rename Fr _ _ _ _ => mF); (with_reducible rename News _ _ _ _ => mN); (with_reducible rename Keeps _ _ => mK); (have zF := Fr.keptAll mF mK); (have zN := News.grown mN mK); clear mN mF mK; (try dsimp only); (try k_fold)))
    (repeat' (first | (k_unfold; (try dsimp only)) | walk1 | (k_unmd; k_unfold; (try dsimp only)) | (dsimp only; first | (k_unfold; (try dsimp only)) | walk1)))
    exact hS _ _ _ hr (Fr.keep (by k_asm)) _
  · intro e h' hn hfl tk'
    rename Fr _ _ _ _ => F2
    refine caughtX w (by k_asm) F2 hfl XB TB fun h4 g4 T4 F4 => ?_
    (((try dsimp only); (try k_fold); (repeat' (first | (k_unfold; (try dsimp only)) | walk1 | (k_unmd; k_unfold; (try dsimp only)) | (dsimp only; first | (k_unfold; (try dsimp only)) | walk1)))))
    exact hN _ hn ⟨g4, T4, Fr.keep (by k_asm)⟩ _
end

section
variable {prog : Program} {w : World} {A : Around} {E : Value → Shared → Prop} {s : Shared} {h₀ : Heap} {L : Addr} {m : Str → Option Value} {env : Env} {elt ct : Expr} {x : Str} {scope : Scope} {cl : List (Str × Addr)}
/-- what a comprehension goes over: an iterator I with n items, told by P -/
structure Over (prog : Program) (w : World) (A : Around) (h₀ : Heap) (L : Addr) (S : List (Addr × Obj) → Prop) (P : Nat → Value → Prop) (n : Nat) (I : Addr) (s₂ : Shared) : Prop where
  walks : ∃ fp St, Walks prog w A I fp [I] n P St ∧ (∀ i h, St i h → ∃ o, h.get? I = some o) ∧
    (∀ i h h' o nw, St i h → h.get? I = some o → h'.get? I = some o → (∀ b o, h₀.get? b = some o → h'.get? b = some o) → News h₀ L h' nw → S nw → St i h') ∧ St 0 s₂.heap ∧ ∀ b ∈ fp, b < s₂.heap.objs.size
  size : n ≤ sizeLine
  notL : L ≠ I
  new : h₀.get? I = none
noncomputable def CompAt (prog : Program) (w : World) (A : Around) (h₀ : Heap) (L : Addr) (m : Str → Option Value) (env : Env) (elt : Expr) (x : Str) (scope : Scope) (cl : List (Str × Addr)) (Q : Value → Shared → Prop) (it : Value) (s₂ : Shared) : Prop :=
  ∃ I S P n news, it = .ref I ∧ Over prog w A h₀ L S P n I s₂ ∧ Fr h₀ L s₂.heap m ∧ News h₀ L s₂.heap news ∧ (∀ p ∈ news, p.1 ≠ I) ∧ S news ∧ LCg.CompRest prog w A h₀ L m env elt x scope cl s₂ S P (LCg.FinE h₀ L m s₂ Q) n 0 [] news
noncomputable def CompAtT (prog : Program) (w : World) (A : Around) (h₀ : Heap) (L : Addr) (m : Str → Option Value) (env : Env) (ct elt : Expr) (x : Str) (scope : Scope) (cl : List (Str × Addr)) (Q : Value → Shared → Prop) (it : Value) (s₂ : Shared) : Prop :=
  ∃ I S P n news, it = .ref I ∧ Over prog w A h₀ L S P n I s₂ ∧ Fr h₀ L s₂.heap m ∧ News h₀ L s₂.heap news ∧ (∀ p ∈ news, p.1 ≠ I) ∧ S news ∧ LCt.CompRestT prog w A h₀ L m env ct elt x scope cl s₂ S P (LCg.FinE h₀ L m s₂ Q) n 0 [] news
theorem compW {iter : Expr} {px : Pos} {pos : Pos} {Q : Value → Shared → Prop} (F₀ : Fr h₀ L s.heap m)
    (hclos : closureFor scope env = pure cl) (hcell : ∀ y ∈ scope.names, y.2 ≠ .cell) (hkind : scope.kind = .function)
    (hnames : ∀ y ∈ scope.names, y.2 = .local → scope.names.lookup y.1 = some .local) (hx : scope.names.lookup x = some .local)
    (h : wpAny (model prog w) A (eval iter env) (fun xv s₁ => wpAny (model prog w) A (pyIter xv) (CompAt prog w A h₀ L m env elt x scope cl Q) E s₁) E s)
    (hs : ∀ x, foldedSetIterable iter env x = pure x := by intro _; rfl) :
    wpAny (model prog w) A (eval (.ListComp elt [⟨.Name x px, iter, [], 0⟩] scope pos) env) Q E s := by
  rw [eval_ListComp]
  refine wpAny_comprehension_free (use := none) rfl hs hclos hkind hnames (wpAny_mono h (fun xv s₁ h₁ => wpAny_mono h₁ (fun it s₂ h₂ => ?_) fun _ _ e => e) fun _ _ e => e)
  obtain ⟨I, S, P, n, news, rfl, ⟨⟨fp, St, W, hIo, hSt, hst, hfp⟩, hsz, hL, hI0⟩, F, N, off, hS, R⟩ := h₂
  refine LCg.block_U W hsz hIo hSt hcell hkind hx hst hfp F N hL hI0 off hS R ?_
  intro D C h tk m' ys news' F' N' o1 hn hC₀ hD₀ hCL hDL hCD offC fin
  refine ⟨m', hn, fun h'' hs'' => fin D h'' tk (F'.change hs'' hCL hC₀) (fun p hp => ?_) o1⟩
  refine ⟨hs''.extBut _ _ ?_ (N' p hp).1, (N' p hp).2⟩
  rcases List.mem_cons.mp hp with rfl | hp
  · exact Ne.symm hCD
  · exact offC p hp
theorem compWT {iter : Expr} {px : Pos} {pos : Pos} {Q : Value → Shared → Prop} (F₀ : Fr h₀ L s.heap m)
    (hclos : closureFor scope env = pure cl) (hcell : ∀ y ∈ scope.names, y.2 ≠ .cell) (hkind : scope.kind = .function)
    (hnames : ∀ y ∈ scope.names, y.2 = .local → scope.names.lookup y.1 = some .local) (hx : scope.names.lookup x = some .local)
    (h : wpAny (model prog w) A (eval iter env) (fun xv s₁ => wpAny (model prog w) A (pyIter xv) (CompAtT prog w A h₀ L m env ct elt x scope cl Q) E s₁) E s)
    (hs : ∀ x, foldedSetIterable iter env x = pure x := by intro _; rfl) :
    wpAny (model prog w) A (eval (.ListComp elt [⟨.Name x px, iter, [ct], 0⟩] scope pos) env) Q E s := by
  rw [eval_ListComp]
  refine wpAny_comprehension_free (use := none) rfl hs hclos hkind hnames (wpAny_mono h (fun xv s₁ h₁ => wpAny_mono h₁ (fun it s₂ h₂ => ?_) fun _ _ e => e) fun _ _ e => e)
  obtain ⟨I, S, P, n, news, rfl, ⟨⟨fp, St, W, hIo, hSt, hst, hfp⟩, hsz, hL, hI0⟩, F, N, off, hS, R⟩ := h₂
  refine LCt.block_T W hsz hIo hSt hcell hkind hx hst hfp F N hL hI0 off hS R ?_
  intro D C h tk m' ys news' F' N' o1 hn hC₀ hD₀ hCL hDL hCD offC fin
  refine ⟨m', hn, fun h'' hs'' => fin D h'' tk (F'.change hs'' hCL hC₀) (fun p hp => ?_) o1⟩
  refine ⟨hs''.extBut _ _ ?_ (N' p hp).1, (N' p hp).2⟩
  rcases List.mem_cons.mp hp with rfl | hp
  · exact Ne.symm hCD
  · exact offC p hp
/-- the turns, by what holds between them -/
theorem restJ {S : List (Addr × Obj) → Prop} {P : Nat → Value → Prop} {Fin : List Value → List (Addr × Obj) → Prop} {n : Nat} (J : Nat → List Value → List (Addr × Obj) → Prop)
    (turn : ∀ i ys news v I oI C oC D m₂ h tk (E' : Value → Shared → Prop), i < n → P i v → J i ys news → LCg.NsObj oC m₂ → m₂ x = some v → Fr h₀ L h m → News h₀ L h ((I, oI) :: (C, oC) :: (D, LCg.lst ys) :: news) → LCg.Off3 I C D news → ((@Ne Nat I C) ∧ (@Ne Nat I D) ∧ (@Ne Nat C D)) →
      wpAny (model prog w) A (eval elt (compEnvC scope cl C env)) (LCg.CompEnd h₀ L m { s with heap := h, toks := tk } I oI C oC D (LCg.lst ys) S (fun y news' => J (i + 1) (ys ++ [y]) news')) E' { s with heap := h, toks := tk })
    (fin : ∀ ys news, J n ys news → Fin ys news) {news : List (Addr × Obj)} (h0 : J 0 [] news) : LCg.CompRest prog w A h₀ L m env elt x scope cl s S P Fin n 0 [] news := by
  have key : ∀ (j i : Nat) (ys : List Value) (news : List (Addr × Obj)), i + j = n → J i ys news → LCg.CompRest prog w A h₀ L m env elt x scope cl s S P Fin j i ys news := by
    intro j
    induction j with
    | zero =>
      intro i ys news hi hj
      obtain rfl : i = n := by omega
      exact LCg.CompRest.zero (fin ys news hj)
    | succ j ih =>
      intro i ys news hi hj
      refine LCg.CompRest.succ ?_
      intro v I oI C oC D m₂ h tk E' hv hC hx F N off ne
      refine wpAny_mono (turn i ys news v I oI C oC D m₂ h tk E' (by omega) hv hj hC hx F N off ne) (fun y s₃ hr => ?_) fun _ _ e => e
      obtain ⟨h', tk', nw, e, F', N', off', hS, hr'⟩ := hr
      exact ⟨h', tk', nw, e, F', N', off', hS, ih (i + 1) _ _ (by omega) hr'⟩
  exact key n 0 [] news (by omega) h0
theorem restTJ {S : List (Addr × Obj) → Prop} {P : Nat → Value → Prop} {Fin : List Value → List (Addr × Obj) → Prop} {n : Nat} (J : Nat → List Value → List (Addr × Obj) → Prop)
    (turn : ∀ i ys news v I oI C oC D m₂ h tk (E' : Value → Shared → Prop), i < n → P i v → J i ys news → LCg.NsObj oC m₂ → m₂ x = some v → Fr h₀ L h m → News h₀ L h ((I, oI) :: (C, oC) :: (D, LCg.lst ys) :: news) → LCg.Off3 I C D news → ((@Ne Nat I C) ∧ (@Ne Nat I D) ∧ (@Ne Nat C D)) →
      wpAny (model prog w) A (isTrue ct (compEnvC scope cl C env) (eval ct (compEnvC scope cl C env))) (fun ok s' => if ok = true then
        wpAny (model prog w) A (eval elt (compEnvC scope cl C env)) (LCg.CompEnd h₀ L m { s with heap := h, toks := tk } I oI C oC D (LCg.lst ys) S (fun y news' => J (i + 1) (ys ++ [y]) news')) E' s'
        else LCg.CompEnd h₀ L m { s with heap := h, toks := tk } I oI C oC D (LCg.lst ys) S (fun _ news' => J (i + 1) ys news') Value.none s') E' { s with heap := h, toks := tk })
    (fin : ∀ ys news, J n ys news → Fin ys news) {news : List (Addr × Obj)} (h0 : J 0 [] news) : LCt.CompRestT prog w A h₀ L m env ct elt x scope cl s S P Fin n 0 [] news := by
  have key : ∀ (j i : Nat) (ys : List Value) (news : List (Addr × Obj)), i + j = n → J i ys news → LCt.CompRestT prog w A h₀ L m env ct elt x scope cl s S P Fin j i ys news := by
    intro j
    induction j with
    | zero =>
      intro i ys news hi hj
      obtain rfl : i = n := by omega
      exact LCt.CompRestT.zero (fin ys news hj)
    | succ j ih =>
      intro i ys news hi hj
      refine LCt.CompRestT.succ ?_
      intro v I oI C oC D m₂ h tk E' hv hC hx F N off ne
      refine wpAny_mono (turn i ys news v I oI C oC D m₂ h tk E' (by omega) hv hj hC hx F N off ne) (fun ok s₃ hr => ?_) fun _ _ e => e
      cases ok with
      | true =>
        simp only [if_true] at hr ⊢
        refine wpAny_mono hr (fun y s₄ hr => ?_) fun _ _ e => e
        obtain ⟨h', tk', nw, e, F', N', off', hS, hr'⟩ := hr
        exact ⟨h', tk', nw, e, F', N', off', hS, ih (i + 1) _ _ (by omega) hr'⟩
      | false =>
        simp only [Bool.false_eq_true, if_false] at hr ⊢
        obtain ⟨h', tk', nw, e, F', N', off', hS, hr'⟩ := hr
        exact ⟨h', tk', nw, e, F', N', off', hS, ih (i + 1) _ _ (by omega) hr'⟩
  exact key n 0 [] news (by omega) h0
theorem overB {b : Array UInt8} {tb : Tok} {ks : List Int} (hk : KBw.bInts b = ks) (hz : ks.length ≤ 16777216) (hh : A.handled = none) (F : Fr h₀ L s.heap m) :
    Over prog w A h₀ L (fun _ => True) (fun i v => ∃ k t, ks[i]? = some k ∧ 0 ≤ k ∧ k < 256 ∧ v = .int k t) ks.length s.heap.objs.size { s with heap := s.heap.push { cls := .type "bytes_iterator", data := .fields #[.bytes b tb, .int 0 0] } } := by
  subst hk
  have W := KBw.walks (prog := prog) (w := w) hh s.heap.objs.size b tb
  rw [KBw.ints_length] at hz ⊢
  refine ⟨⟨[s.heap.objs.size], _, { sub := W.sub, frame := W.frame, done := W.done, self := W.self, item := fun i s Q E hi st hQ => W.item i s Q E hi st fun v h' tk hP => hQ v h' tk ?_ }, fun i h st => ?_, fun i h h' o nw st e1 e2 _ _ _ => ?_, ⟨_, Heap.get?_push_size _ rfl, rfl, rfl⟩, fun b hb => ?_⟩, by rw [sizeLine_eq]; exact hz, Nat.ne_of_lt F.ns.lt, next_is_new F⟩
  · obtain ⟨c, u, hc, rfl⟩ := hP
    have hg := KBw.ints_get hc
    have hin := KBw.ints_in (List.mem_of_getElem? hg)
    exact ⟨_, u, hg, hin.1, hin.2, rfl⟩
  · obtain ⟨o, ho, _⟩ := st; exact ⟨o, ho⟩
  · obtain ⟨o', ho', r⟩ := st
    rw [e1] at ho'; cases ho'
    exact ⟨o, e2, r⟩
  · rw [List.mem_singleton.mp hb]
    show s.heap.objs.size < (s.heap.push _).objs.size
    rw [Heap.size_push]; exact Nat.lt_succ_self _
/-- a comprehension over bytes -/
theorem iterCB {b : Array UInt8} {tb : Tok} {ks : List Int} {Q : Value → Shared → Prop} {news : List (Addr × Obj)} (hk : KBw.bInts b = ks) (hz : ks.length ≤ 16777216) (hh : A.handled = none) (F : Fr h₀ L s.heap m) (N : News h₀ L s.heap news)
    (R : ∀ g, LCg.CompRest prog w A h₀ L m env elt x scope cl { s with heap := g } (fun _ => True) (fun i v => ∃ k t, ks[i]? = some k ∧ 0 ≤ k ∧ k < 256 ∧ v = .int k t) (LCg.FinE h₀ L m { s with heap := g } Q) ks.length 0 [] news) :
    wpAny (model prog w) A (pyIter (.bytes b tb)) (CompAt prog w A h₀ L m env elt x scope cl Q) E s :=
  KBw.pyIter_bytes ⟨_, _, _, _, news, rfl, overB hk hz hh F, F.push _, fun p hp => ⟨Heap.get?_push_of_some _ (N p hp).1, (N p hp).2⟩, fun p hp => Nat.ne_of_lt (Heap.lt_size (N p hp).1), trivial, R _⟩
theorem iterCBT {b : Array UInt8} {tb : Tok} {ks : List Int} {Q : Value → Shared → Prop} {news : List (Addr × Obj)} (hk : KBw.bInts b = ks) (hz : ks.length ≤ 16777216) (hh : A.handled = none) (F : Fr h₀ L s.heap m) (N : News h₀ L s.heap news)
    (R : ∀ g, LCt.CompRestT prog w A h₀ L m env ct elt x scope cl { s with heap := g } (fun _ => True) (fun i v => ∃ k t, ks[i]? = some k ∧ 0 ≤ k ∧ k < 256 ∧ v = .int k t) (LCg.FinE h₀ L m { s with heap := g } Q) ks.length 0 [] news) :
    wpAny (model prog w) A (pyIter (.bytes b tb)) (CompAtT prog w A h₀ L m env ct elt x scope cl Q) E s :=
  KBw.pyIter_bytes ⟨_, _, _, _, news, rfl, overB hk hz hh F, F.push _, fun p hp => ⟨Heap.get?_push_of_some _ (N p hp).1, (N p hp).2⟩, fun p hp => Nat.ne_of_lt (Heap.lt_size (N p hp).1), trivial, R _⟩
end
section
variable {prog : Program} {w : World} {A : Around} {E : Value → Shared → Prop} {s : Shared} {h₀ : Heap} {L : Addr} {m : Str → Option Value} {env : Env} {elt ct : Expr} {x : Str} {scope : Scope} {cl : List (Str × Addr)}
/-- a comprehension over bytes, whose elements are ints by f -/
theorem iterCBm {b : Array UInt8} {tb : Tok} {ks : List Int} {Q : Value → Shared → Prop} {news : List (Addr × Obj)} (f : Int → Int) (hk : KBw.bInts b = ks) (hz : ks.length ≤ 16777216) (hh : A.handled = none) (F : Fr h₀ L s.heap m) (N : News h₀ L s.heap news)
    (turn : ∀ k t I oI C oC D m₂ ys h tk s₁ (E' : Value → Shared → Prop), k ∈ ks → 0 ≤ k → k < 256 → LCg.NsObj oC m₂ → m₂ x = some (.int k t) → Fr h₀ L h m → News h₀ L h ((I, oI) :: (C, oC) :: (D, LCg.lst ys) :: news) → LCg.Off3 I C D news → ((@Ne Nat I C) ∧ (@Ne Nat I D) ∧ (@Ne Nat C D)) → (∃ g, s₁ = { s with heap := g }) →
      wpAny (model prog w) A (eval elt (compEnvC scope cl C env)) (LCg.CompEnd h₀ L m { s₁ with heap := h, toks := tk } I oI C oC D (LCg.lst ys) (fun _ => True) (fun y news' => news' = news ∧ ∃ t, y = .int (f k) t)) E' { s₁ with heap := h, toks := tk })
    (fin : ∀ D h tk ys, IntsAre ys (ks.map f) → Fr h₀ L h m → News h₀ L h ((D, LCg.lst ys) :: news) → Q (.ref D) { s with heap := h, toks := tk }) :
    wpAny (model prog w) A (pyIter (.bytes b tb)) (CompAt prog w A h₀ L m env elt x scope cl Q) E s := by
  refine iterCB hk hz hh F N fun g => restJ (fun i ys nw => nw = news ∧ IntsAre ys ((ks.take i).map f)) ?_ ?_ ⟨rfl, .nil⟩
  · rintro i ys nw v I oI C oC D m₂ h tk E' hi ⟨k, t, hg, h0, h1, rfl⟩ ⟨rfl, hy⟩ hC hx F N off ne
    refine wpAny_mono (turn k t I oI C oC D m₂ ys h tk _ E' (List.mem_of_getElem? hg) h0 h1 hC hx F N off ne ⟨g, rfl⟩) (fun y s₃ hr => ?_) fun _ _ e => e
    obtain ⟨h', tk', nw', e, F', N', off', hS, rfl, t', rfl⟩ := hr
    refine ⟨h', tk', _, e, F', N', off', hS, rfl, ?_⟩
    rw [List.take_add_one, hg]
    simpa using IntsAre.append hy (.cons (f k) t' .nil)
  · rintro ys nw ⟨rfl, hy⟩ D h tk F' N' _
    rw [List.take_length] at hy
    exact fin D h tk ys hy F' N'
end
section
variable {prog : Program} {w : World} {A : Around} {E : Value → Shared → Prop} {s : Shared} {h₀ : Heap} {L : Addr} {m : Str → Option Value} {env : Env} {elt ct : Expr} {x : Str} {scope : Scope} {cl : List (Str × Addr)}
theorem overR {a c : Int} {n : Nat} (hz : n ≤ 16777216) (hh : A.handled = none) (F : Fr h₀ L s.heap m) :
    Over prog w A h₀ L (fun _ => True) (fun i v => ∃ t, v = .int (a + (i : Int) * c) t) n s.heap.objs.size { s with heap := s.heap.push { cls := .type "range_iterator", dict := none, data := .fields #[rawInt a, rawInt n, rawInt c], slots := #[] } } := by
  have W := Walks.range (prog := prog) (w := w) hh s.heap.objs.size a c n
  refine ⟨⟨[s.heap.objs.size], _, W, fun i h st => ⟨_, st⟩, fun i h h' o nw st e1 e2 _ _ _ => ?_, ?_, fun b hb => ?_⟩, by rw [sizeLine_eq]; exact hz, Nat.ne_of_lt F.ns.lt, next_is_new F⟩
  · have st' : h.get? s.heap.objs.size = some _ := st
    show h'.get? s.heap.objs.size = some _
    rw [e2, ← e1]; exact st'
  · have : IsRangeIter (s.heap.push { cls := .type "range_iterator", dict := none, data := .fields #[rawInt a, rawInt n, rawInt c], slots := #[] }) s.heap.objs.size (a + ((0 : Nat) : Int) * c) ((n : Int) - ((0 : Nat) : Int)) c := by
      simpa [IsRangeIter] using Heap.get?_push_size s.heap rfl
    exact this
  · rw [List.mem_singleton.mp hb]
    show s.heap.objs.size < (s.heap.push _).objs.size
    rw [Heap.size_push]; exact Nat.lt_succ_self _
/-- a comprehension over a range -/
theorem iterCR {r : Addr} {a b c : Int} {t u v : Tok} {n : Nat} {Q : Value → Shared → Prop} {news : List (Addr × Obj)} (hr : IsRange s.heap r a b c t u v) (hsm : Builtin.Range.small a b c = true) (hn : Builtin.Range.rangeSize a b c = (n : Int)) (hz : n ≤ 16777216) (hh : A.handled = none) (F : Fr h₀ L s.heap m) (N : News h₀ L s.heap news)
    (R : ∀ g, LCg.CompRest prog w A h₀ L m env elt x scope cl { s with heap := g } (fun _ => True) (fun i v => ∃ t, v = .int (a + (i : Int) * c) t) (LCg.FinE h₀ L m { s with heap := g } Q) n 0 [] news) :
    wpAny (model prog w) A (pyIter (.ref r)) (CompAt prog w A h₀ L m env elt x scope cl Q) E s :=
  wpAny_pyIter_range hr hsm (by
    rw [hn]
    exact ⟨_, _, _, _, news, rfl, overR hz hh F, F.push _, fun p hp => ⟨Heap.get?_push_of_some _ (N p hp).1, (N p hp).2⟩, fun p hp => Nat.ne_of_lt (Heap.lt_size (N p hp).1), trivial, R _⟩)
/-- a comprehension over a range, whose elements are ints by f -/
theorem iterCRm {r : Addr} {a b c : Int} {t u v : Tok} {n : Nat} {Q : Value → Shared → Prop} {news : List (Addr × Obj)} (f : Int → Int) (hr : IsRange s.heap r a b c t u v) (hsm : Builtin.Range.small a b c = true) (hn : Builtin.Range.rangeSize a b c = (n : Int)) (hz : n ≤ 16777216) (hh : A.handled = none) (F : Fr h₀ L s.heap m) (N : News h₀ L s.heap news)
    (turn : ∀ i t I oI C oC D m₂ ys h tk s₁ (E' : Value → Shared → Prop), i < n → LCg.NsObj oC m₂ → m₂ x = some (.int (a + (i : Int) * c) t) → Fr h₀ L h m → News h₀ L h ((I, oI) :: (C, oC) :: (D, LCg.lst ys) :: news) → LCg.Off3 I C D news → ((@Ne Nat I C) ∧ (@Ne Nat I D) ∧ (@Ne Nat C D)) → (∃ g, s₁ = { s with heap := g }) →
      wpAny (model prog w) A (eval elt (compEnvC scope cl C env)) (LCg.CompEnd h₀ L m { s₁ with heap := h, toks := tk } I oI C oC D (LCg.lst ys) (fun _ => True) (fun y news' => news' = news ∧ ∃ t, y = .int (f (a + (i : Int) * c)) t)) E' { s₁ with heap := h, toks := tk })
    (fin : ∀ D h tk ys, IntsAre ys ((List.range n).map fun (i : Nat) => f (a + (i : Int) * c)) → Fr h₀ L h m → News h₀ L h ((D, LCg.lst ys) :: news) → Q (.ref D) { s with heap := h, toks := tk }) :
    wpAny (model prog w) A (pyIter (.ref r)) (CompAt prog w A h₀ L m env elt x scope cl Q) E s := by
  refine iterCR hr hsm hn hz hh F N fun g => restJ (fun i ys nw => nw = news ∧ IntsAre ys ((List.range i).map fun (i : Nat) => f (a + (i : Int) * c))) ?_ ?_ ⟨rfl, .nil⟩
  · rintro i ys nw v I oI C oC D m₂ h tk E' hi ⟨t, rfl⟩ ⟨rfl, hy⟩ hC hx F N off ne
    refine wpAny_mono (turn i t I oI C oC D m₂ ys h tk _ E' hi hC hx F N off ne ⟨g, rfl⟩) (fun y s₃ hr => ?_) fun _ _ e => e
    obtain ⟨h', tk', nw', e, F', N', off', hS, rfl, t', rfl⟩ := hr
    refine ⟨h', tk', _, e, F', N', off', hS, rfl, ?_⟩
    rw [List.range_succ, List.map_append]
    exact IntsAre.append hy (.cons _ t' .nil)
  · rintro ys nw ⟨rfl, hy⟩ D h tk F' N' _
    exact fin D h tk ys hy F' N'
end
section
variable {prog : Program} {w : World} {A : Around} {E : Value → Shared → Prop} {s : Shared} {h₀ : Heap} {L : Addr} {m : Str → Option Value} {env : Env} {elt ct : Expr} {x : Str} {scope : Scope} {cl : List (Str × Addr)}
/-- a comprehension over bytes that keeps those that p holds of -/
theorem iterCBf {b : Array UInt8} {tb : Tok} {ks : List Int} {Q : Value → Shared → Prop} {news : List (Addr × Obj)} (p : Int → Bool) (hk : KBw.bInts b = ks) (hz : ks.length ≤ 16777216) (hh : A.handled = none) (F : Fr h₀ L s.heap m) (N : News h₀ L s.heap news)
    (turn : ∀ k t I oI C oC D m₂ ys h tk s₁ (E' : Value → Shared → Prop), k ∈ ks → 0 ≤ k → k < 256 → LCg.NsObj oC m₂ → m₂ x = some (.int k t) → Fr h₀ L h m → News h₀ L h ((I, oI) :: (C, oC) :: (D, LCg.lst ys) :: news) → LCg.Off3 I C D news → ((@Ne Nat I C) ∧ (@Ne Nat I D) ∧ (@Ne Nat C D)) → (∃ g, s₁ = { s with heap := g }) →
      wpAny (model prog w) A (isTrue ct (compEnvC scope cl C env) (eval ct (compEnvC scope cl C env))) (fun ok s' => if ok = true then
        wpAny (model prog w) A (eval elt (compEnvC scope cl C env)) (LCg.CompEnd h₀ L m { s₁ with heap := h, toks := tk } I oI C oC D (LCg.lst ys) (fun _ => True) (fun y news' => news' = news ∧ p k = true ∧ ∃ t, y = .int k t)) E' s'
        else LCg.CompEnd h₀ L m { s₁ with heap := h, toks := tk } I oI C oC D (LCg.lst ys) (fun _ => True) (fun _ news' => news' = news ∧ p k = false) Value.none s') E' { s₁ with heap := h, toks := tk })
    (fin : ∀ D h tk ys, IntsAre ys (ks.filter p) → Fr h₀ L h m → News h₀ L h ((D, LCg.lst ys) :: news) → Q (.ref D) { s with heap := h, toks := tk }) :
    wpAny (model prog w) A (pyIter (.bytes b tb)) (CompAtT prog w A h₀ L m env ct elt x scope cl Q) E s := by
  refine iterCBT hk hz hh F N fun g => restTJ (fun i ys nw => nw = news ∧ IntsAre ys ((ks.take i).filter p)) ?_ ?_ ⟨rfl, .nil⟩
  · rintro i ys nw v I oI C oC D m₂ h tk E' hi ⟨k, t, hg, h0, h1, rfl⟩ ⟨rfl, hy⟩ hC hx F N off ne
    refine wpAny_mono (turn k t I oI C oC D m₂ ys h tk _ E' (List.mem_of_getElem? hg) h0 h1 hC hx F N off ne ⟨g, rfl⟩) (fun ok s₃ hr => ?_) fun _ _ e => e
    cases ok with
    | true =>
      simp only [if_true] at hr ⊢
      refine wpAny_mono hr (fun y s₄ hr => ?_) fun _ _ e => e
      obtain ⟨h', tk', nw', e, F', N', off', hS, rfl, hp, t', rfl⟩ := hr
      refine ⟨h', tk', _, e, F', N', off', hS, rfl, ?_⟩
      rw [List.take_add_one, hg, List.filter_append]
      have e2 : List.filter p (some k).toList = [k] := by simp [hp]
      rw [e2]
      exact IntsAre.append hy (.cons k t' .nil)
    | false =>
      simp only [Bool.false_eq_true, if_false] at hr ⊢
      obtain ⟨h', tk', nw', e, F', N', off', hS, rfl, hp⟩ := hr
      refine ⟨h', tk', _, e, F', N', off', hS, rfl, ?_⟩
      rw [List.take_add_one, hg, List.filter_append]
      have e2 : List.filter p (some k).toList = [] := by simp [hp]
      rw [e2, List.append_nil]
      exact hy
  · rintro ys nw ⟨rfl, hy⟩ D h tk F' N' _
    rw [List.take_length] at hy
    exact fin D h tk ys hy F' N'
end
section
variable {prog : Program} {w : World} {A : Around} {E : Value → Shared → Prop} {s : Shared} {h₀ : Heap} {L : Addr} {m : Str → Option Value} {env : Env} {elt ct : Expr} {x : Str} {scope : Scope} {cl : List (Str × Addr)}
theorem overT {T : Addr} {oT : Obj} {items : Array Value} {news : List (Addr × Obj)} (hc : oT.cls = .type "tuple") (hd : ∃ n, oT.data = .seq items n) (hz : items.size ≤ 16777216) (hh : A.handled = none) (F : Fr h₀ L s.heap m) (N : News h₀ L s.heap news) (hT : (T, oT) ∈ news) :
    Over prog w A h₀ L (fun nw => (T, oT) ∈ nw) (fun i v => items[i]? = some v) items.size s.heap.objs.size { s with heap := s.heap.push { cls := .type "tuple_iterator", data := .fields #[.ref T, .int 0 0] } } := by
  have hlt : T < s.heap.objs.size := Heap.lt_size (N _ hT).1
  have W := Walks.tuple (prog := prog) (w := w) hh s.heap.objs.size T (Nat.ne_of_lt hlt) items
  refine ⟨⟨[s.heap.objs.size, T], _, W, fun i h st => ?_, fun i h h' o nw st e1 e2 k N' S => ⟨?_, ⟨_, (N' _ S).1, hc, hd⟩⟩, ⟨⟨_, Heap.get?_push_size _ rfl, rfl, rfl⟩, ⟨_, Heap.get?_push_of_some _ (N _ hT).1, hc, hd⟩⟩, fun b hb => ?_⟩, by rw [sizeLine_eq]; exact hz, Nat.ne_of_lt F.ns.lt, next_is_new F⟩
  · obtain ⟨o, ho, _⟩ := st.1; exact ⟨o, ho⟩
  · obtain ⟨o', ho', r⟩ := st.1
    rw [e1] at ho'; cases ho'
    exact ⟨o, e2, r⟩
  · show b < (s.heap.push _).objs.size
    rw [Heap.size_push]
    rcases List.mem_cons.mp hb with rfl | hb
    · exact Nat.lt_succ_self _
    · rw [List.mem_singleton.mp hb]; exact Nat.lt_succ_of_lt hlt
/-- a comprehension over a tuple of the ledger -/
theorem iterCT {T : Addr} {oT : Obj} {items : Array Value} {Q : Value → Shared → Prop} {news : List (Addr × Obj)} (hc : oT.cls = .type "tuple") (hd : ∃ n, oT.data = .seq items n) (hz : items.size ≤ 16777216) (hh : A.handled = none) (F : Fr h₀ L s.heap m) (N : News h₀ L s.heap news) (hT : (T, oT) ∈ news)
    (R : ∀ g, LCg.CompRest prog w A h₀ L m env elt x scope cl { s with heap := g } (fun nw => (T, oT) ∈ nw) (fun i v => items[i]? = some v) (LCg.FinE h₀ L m { s with heap := g } Q) items.size 0 [] news) :
    wpAny (model prog w) A (pyIter (.ref T)) (CompAt prog w A h₀ L m env elt x scope cl Q) E s :=
  wpAny_pyIter_tuple ⟨_, (N _ hT).1, hc, hd⟩ ⟨_, _, _, _, news, rfl, overT hc hd hz hh F N hT, F.push _, fun p hp => ⟨Heap.get?_push_of_some _ (N p hp).1, (N p hp).2⟩, fun p hp => Nat.ne_of_lt (Heap.lt_size (N p hp).1), hT, R _⟩
theorem iterCTT {T : Addr} {oT : Obj} {items : Array Value} {Q : Value → Shared → Prop} {news : List (Addr × Obj)} (hc : oT.cls = .type "tuple") (hd : ∃ n, oT.data = .seq items n) (hz : items.size ≤ 16777216) (hh : A.handled = none) (F : Fr h₀ L s.heap m) (N : News h₀ L s.heap news) (hT : (T, oT) ∈ news)
    (R : ∀ g, LCt.CompRestT prog w A h₀ L m env ct elt x scope cl { s with heap := g } (fun nw => (T, oT) ∈ nw) (fun i v => items[i]? = some v) (LCg.FinE h₀ L m { s with heap := g } Q) items.size 0 [] news) :
    wpAny (model prog w) A (pyIter (.ref T)) (CompAtT prog w A h₀ L m env ct elt x scope cl Q) E s :=
  wpAny_pyIter_tuple ⟨_, (N _ hT).1, hc, hd⟩ ⟨_, _, _, _, news, rfl, overT hc hd hz hh F N hT, F.push _, fun p hp => ⟨Heap.get?_push_of_some _ (N p hp).1, (N p hp).2⟩, fun p hp => Nat.ne_of_lt (Heap.lt_size (N p hp).1), hT, R _⟩
/-- a comprehension over a tuple of ints, whose elements are ints by f -/
theorem iterCTm {T : Addr} {oT : Obj} {items : Array Value} {ns : List Int} {Q : Value → Shared → Prop} {news : List (Addr × Obj)} (f : Int → Int) (hi : IntsAre items.toList ns) (hc : oT.cls = .type "tuple") (hd : ∃ n, oT.data = .seq items n) (hz : items.size ≤ 16777216) (hh : A.handled = none) (F : Fr h₀ L s.heap m) (N : News h₀ L s.heap news) (hT : (T, oT) ∈ news)
    (turn : ∀ k t I oI C oC D m₂ ys h tk s₁ (E' : Value → Shared → Prop), k ∈ ns → LCg.NsObj oC m₂ → m₂ x = some (.int k t) → Fr h₀ L h m → News h₀ L h ((I, oI) :: (C, oC) :: (D, LCg.lst ys) :: news) → LCg.Off3 I C D news → ((@Ne Nat I C) ∧ (@Ne Nat I D) ∧ (@Ne Nat C D)) → (∃ g, s₁ = { s with heap := g }) →
      wpAny (model prog w) A (eval elt (compEnvC scope cl C env)) (LCg.CompEnd h₀ L m { s₁ with heap := h, toks := tk } I oI C oC D (LCg.lst ys) (fun nw => (T, oT) ∈ nw) (fun y news' => news' = news ∧ ∃ t, y = .int (f k) t)) E' { s₁ with heap := h, toks := tk })
    (fin : ∀ D h tk ys, IntsAre ys (ns.map f) → Fr h₀ L h m → News h₀ L h ((D, LCg.lst ys) :: news) → Q (.ref D) { s with heap := h, toks := tk }) :
    wpAny (model prog w) A (pyIter (.ref T)) (CompAt prog w A h₀ L m env elt x scope cl Q) E s := by
  have hl : ns.length = items.size := by rw [← hi.length, Array.length_toList]
  refine iterCT hc hd hz hh F N hT fun g => restJ (fun i ys nw => nw = news ∧ IntsAre ys ((ns.take i).map f)) ?_ ?_ ⟨rfl, .nil⟩
  · rintro i ys nw v I oI C oC D m₂ h tk E' hi' hv ⟨rfl, hy⟩ hC hx F N off ne
    obtain ⟨k, t, rfl, hk⟩ := IntsAre.at hi i v (by rw [Array.getElem?_toList]; exact hv)
    refine wpAny_mono (turn k t I oI C oC D m₂ ys h tk _ E' (List.mem_of_getElem? hk) hC hx F N off ne ⟨g, rfl⟩) (fun y s₃ hr => ?_) fun _ _ e => e
    obtain ⟨h', tk', nw', e, F', N', off', hS, rfl, t', rfl⟩ := hr
    refine ⟨h', tk', _, e, F', N', off', hS, rfl, ?_⟩
    rw [List.take_add_one, hk]
    simpa using IntsAre.append hy (.cons (f k) t' .nil)
  · rintro ys nw ⟨rfl, hy⟩ D h tk F' N' _
    rw [← hl, List.take_length] at hy
    exact fin D h tk ys hy F' N'
end

section
set_option pp.deepTerms false
set_option pp.maxSteps 1500
theorem c_signs (hh : A.handled = none) (B : Below A base outer s.heap) (X : (hd.heap_39 w.params).In s.heap) (T : Top hd.view_39 LO mean mg mb s.heap) (hdp : A.depth + 20 < recursionLimit) (hun : A.units + 60 < cLine)
    (hQ : ∀ b' t' h', KBw.bInts b' = signsI → Keeps s.heap h' → ∀ tk', Q (.bytes b' t') { s with heap := h', toks := tk' }) :
    wpAny (model PySem.Challenge.rw_pb0094_01.row.prog w) A (call (.ref 173) []) Q E s := by
  have mark0 := @Mark.on "comp"
  have mark1 := @Mark.on "bytes"
  ((((
  (with_reducible rename Frag.In _ _ => mX0); revert mX0; k_fill; intro mX1
  (with_reducible rename Below _ _ _ _ => mB0); (with_reducible rename (Around.handled _ = none) => mh0); (with_reducible rename (Around.depth _ + _ < recursionLimit) => md0); (with_reducible rename (Around.units _ + _ < cLine) => mu0)
  first | refine m_open mh0 mB0 md0 mu0 ?_ | refine s_open mh0 mB0 md0 mu0 ?_
  clear mh0 mB0 md0 mu0
  intro zdp zun zgd mB1 md1 mu1)); (first
  | (refine' enterP ?s1x31x32 ?s2x31x32 ?s3x31x32 ?s4x31x32 ?s5x31x32 ?s6x31x32 ?s7x31x32 ?s8x31x32 ?s9x31x32 ?_ ?s11x31x32 ?s12x31x32 ?s13x31x32 ?s14x31x32; (((case s1x31x32 => k_asm); (case s2x31x32 => k_asm); (case s3x31x32 => k_asm); (case s4x31x32 => first | assumption | exact Led.refl _); (case s5x31x32 => k_is); (case s6x31x32 => k_is); (case s7x31x32 => walk_at "m_rd"); (case s8x31x32 => first | exact BindsTo.of_eq rfl | exact binds_K (by k_in) rfl (by k_is) rfl rfl rfl); (case s9x31x32 => first | exact rfl | exact locs rfl); (try (case s10x31x32 => first | exact rfl | decide +kernel)); (case s11x31x32 => exact rfl); (case s12x31x32 => exact rfl); (case s13x31x32 => exact rfl))); (case s14x31x32 => decide); k_whole; intro zL zh zF zN; (try dsimp only); (try k_fold))
  | (refine' enterC ?s1x31x32 ?s2x31x32 ?s3x31x32 ?s4x31x32 ?s5x31x32 ?s6x31x32 ?s7x31x32 ?s8x31x32 ?s9x31x32 ?s10x31x32 ?_ ?s11x31x32 ?s12x31x32 ?s13x31x32; (((case s1x31x32 => k_asm); (case s2x31x32 => k_asm); (case s3x31x32 => k_asm); (case s4x31x32 => first | assumption | exact Led.refl _); (case s5x31x32 => k_is); (case s6x31x32 => k_is); (case s7x31x32 => walk_at "m_rd"); (case s8x31x32 => first | exact BindsTo.of_eq rfl | exact binds_K (by k_in) rfl (by k_is) rfl rfl rfl); (case s9x31x32 => first | exact rfl | exact locs rfl); (try (case s10x31x32 => first | exact rfl | decide +kernel)); (case s11x31x32 => exact rfl); (case s12x31x32 => exact rfl); (case s13x31x32 => exact rfl))); k_whole; intro zL zh ztk zcells zF zN zY zl; (try k_lt zl); k_cells zY; (try simp only [List.cons_append, List.nil_append] at zN); (try dsimp only); (try k_fold)))))
  (repeat' (first | (k_unfold; (try dsimp only)) | walk1 | (k_unmd; k_unfold; (try dsimp only)) | (dsimp only; first | (k_unfold; (try dsimp only)) | walk1)))
  unfold Hold
  (((refine compW (F₀ := by k_asm) (by with_unfolding_all rfl) (by decide) (by rfl) (by decide) (by rfl) ?_)))
  (repeat' (first | (k_unfold; (try dsimp only)) | walk1 | (k_unmd; k_unfold; (try dsimp only)) | (dsimp only; first | (k_unfold; (try dsimp only)) | walk1)))
  unfold Hold
  (rename Fr _ _ _ _ => F1); (rename News _ _ _ _ => N1)
  have hk9 : KBw.bInts #[65, 66, 67, 68, 69, 70, 71, 72, 73, 74, 75, 76, 77, 78, 79, 80, 81, 82, 83, 84, 85, 86, 87, 88, 89, 90] = [65, 66, 67, 68, 69, 70, 71, 72, 73, 74, 75, 76, 77, 78, 79, 80, 81, 82, 83, 84, 85, 86, 87, 88, 89, 90] := by rfl
  refine iterCBm (fun k => k + 32) hk9 (by decide) rfl F1 N1 ?_ ?_
  · intro k t I oI C oC D m₂ ys h tk s₁ E' hk h0 h1 hC hx F N off ne hs1
    obtain ⟨g, rfl⟩ := hs1
    (repeat' (first | (k_unfold; (try dsimp only)) | walk1 | (k_unmd; k_unfold; (try dsimp only)) | (dsimp only; first | (k_unfold; (try dsimp only)) | walk1)))
  · intro D h tk ys hy F N
    (repeat' (first | (k_unfold; (try dsimp only)) | walk1 | (k_unmd; k_unfold; (try dsimp only)) | (dsimp only; first | (k_unfold; (try dsimp only)) | walk1)))
    refine KBa.make_K F N rfl (News.isList N (by k_mem)) hy (show ∀ n ∈ _, 0 ≤ n ∧ n < 256 by decide) (Nat.le_of_ble_eq_true rfl) fun h' t' k F N hin => ?_
    have hb9 := KBa.ints_make hin
    (repeat' (first | (k_unfold; (try dsimp only)) | walk1 | (k_unmd; k_unfold; (try dsimp only)) | (dsimp only; first | (k_unfold; (try dsimp only)) | walk1)))
    exact hQ _ _ _ (Eq.trans (by assumption) (by decide)) (Fr.keep (by k_asm)) _
end
section
set_option pp.deepTerms false
set_option pp.maxSteps 1500
/-- the signs of lengths -/
noncomputable def lengthsI : List Int := (signsI.drop 10).take 52
theorem c_lengths (hh : A.handled = none) (B : Below A base outer s.heap) (X : (hd.heap_39 w.params).In s.heap) (T : Top hd.view_39 LO mean mg mb s.heap) (hdp : A.depth + 40 < recursionLimit) (hun : A.units + 120 < cLine)
    (hQ : ∀ b' t' h', KBw.bInts b' = lengthsI → Keeps s.heap h' → ∀ tk', Q (.bytes b' t') { s with heap := h', toks := tk' }) :
    wpAny (model PySem.Challenge.rw_pb0094_01.row.prog w) A (call (.ref 180) []) Q E s := by
  have mark0 := @Mark.on "call"
  ((((
  (with_reducible rename Frag.In _ _ => mX0); revert mX0; k_fill; intro mX1
  (with_reducible rename Below _ _ _ _ => mB0); (with_reducible rename (Around.handled _ = none) => mh0); (with_reducible rename (Around.depth _ + _ < recursionLimit) => md0); (with_reducible rename (Around.units _ + _ < cLine) => mu0)
  first | refine m_open mh0 mB0 md0 mu0 ?_ | refine s_open mh0 mB0 md0 mu0 ?_
  clear mh0 mB0 md0 mu0
  intro zdp zun zgd mB1 md1 mu1)); (first
  | (refine' enterP ?s1x33x34 ?s2x33x34 ?s3x33x34 ?s4x33x34 ?s5x33x34 ?s6x33x34 ?s7x33x34 ?s8x33x34 ?s9x33x34 ?_ ?s11x33x34 ?s12x33x34 ?s13x33x34 ?s14x33x34; (((case s1x33x34 => k_asm); (case s2x33x34 => k_asm); (case s3x33x34 => k_asm); (case s4x33x34 => first | assumption | exact Led.refl _); (case s5x33x34 => k_is); (case s6x33x34 => k_is); (case s7x33x34 => walk_at "m_rd"); (case s8x33x34 => first | exact BindsTo.of_eq rfl | exact binds_K (by k_in) rfl (by k_is) rfl rfl rfl); (case s9x33x34 => first | exact rfl | exact locs rfl); (try (case s10x33x34 => first | exact rfl | decide +kernel)); (case s11x33x34 => exact rfl); (case s12x33x34 => exact rfl); (case s13x33x34 => exact rfl))); (case s14x33x34 => decide); k_whole; intro zL zh zF zN; (try dsimp only); (try k_fold))
  | (refine' enterC ?s1x33x34 ?s2x33x34 ?s3x33x34 ?s4x33x34 ?s5x33x34 ?s6x33x34 ?s7x33x34 ?s8x33x34 ?s9x33x34 ?s10x33x34 ?_ ?s11x33x34 ?s12x33x34 ?s13x33x34; (((case s1x33x34 => k_asm); (case s2x33x34 => k_asm); (case s3x33x34 => k_asm); (case s4x33x34 => first | assumption | exact Led.refl _); (case s5x33x34 => k_is); (case s6x33x34 => k_is); (case s7x33x34 => walk_at "m_rd"); (case s8x33x34 => first | exact BindsTo.of_eq rfl | exact binds_K (by k_in) rfl (by k_is) rfl rfl rfl); (case s9x33x34 => first | exact rfl | exact locs rfl); (try (case s10x33x34 => first | exact rfl | decide +kernel)); (case s11x33x34 => exact rfl); (case s12x33x34 => exact rfl); (case s13x33x34 => exact rfl))); k_whole; intro zL zh ztk zcells zF zN zY zl; (try k_lt zl); k_cells zY; (try simp only [List.cons_append, List.nil_append] at zN); (try dsimp only); (try k_fold)))))
  have hl9 : signsI.length = 85 := by decide
  (repeat' (first | (k_unfold; (try dsimp only)) | walk1 | (k_unmd; k_unfold; (try dsimp only)) | (dsimp only; first | (k_unfold; (try dsimp only)) | walk1)))
  unfold Hold
  refine c_signs w rfl (by walk_at "m_B") (by walk_at "m_X") (by walk_at "m_T") (by walk_at "m_rd") (by walk_at "m_ru") ?_
  intro b' t' h' hb' hk' tk'
  (((with_reducible rename Fr _ _ _ _ => mF); (with_reducible rename News _ _ _ _ => mN); (with_reducible rename Keeps _ _ => mK); (have zF := Fr.keptAll mF mK); (have zN := News.grown mN mK); clear mN mF mK; (try dsimp only); (try k_fold)))
  (repeat' (first | (k_unfold; (try dsimp only)) | walk1 | (k_unmd; k_unfold; (try dsimp only)) | (dsimp only; first | (k_unfold; (try dsimp only)) | walk1)))
  refine hQ _ _ _ ?_ (Fr.keep (by k_asm)) _
  rename KBw.bInts (KBy.picked _ _ _) = _ => hkP
  rw [hkP]
  decide
end
local macro_rules | `(tactic| walk_at "call ref") => `(tactic| (k_here; (first
  | k_dflt ((show wpAny _ _ (call (Value.ref 173) []) _ _ _); refine' c_signs _ ?kh ?kB ?kX ?kT ?kd ?ku ?_; walk_at "m_prem"; k_whole)
  | k_dflt ((show wpAny _ _ (call (Value.ref 180) []) _ _ _); refine' c_lengths _ ?kh ?kB ?kX ?kT ?kd ?ku ?_; walk_at "m_prem"; k_whole)); intros; (((with_reducible rename Fr _ _ _ _ => mF); (with_reducible rename News _ _ _ _ => mN); (with_reducible rename Keeps _ _ => mK); (have zF := Fr.keptAll mF mK); (have zN := News.grown mN mK); clear mN mF mK; (try dsimp only); (try k_fold)))))

/-- octets, filled with noughts up to fours -/
noncomputable def filled (ks : List Int) : List Int := ks ++ List.replicate ((-(ks.length : Int)).fmod 4).toNat 0
theorem filled_length (ks : List Int) : (filled ks).length = 4 * ((ks.length + 3) / 4) := by
  unfold filled
  rw [List.length_append, List.length_replicate, Int.fmod_eq_emod_of_nonneg _ (by decide : (0 : Int) ≤ 4)]
  omega
theorem filled_four {ks : List Int} {i : Nat} (h : 4 * i < ks.length) : ((filled ks).drop (4 * i)).take 4 = four ks i := by
  have hl := filled_length ks
  have hz : ((-(ks.length : Int)).fmod 4).toNat ≤ 3 := by
    have := fmod_hi (-(ks.length : Int)) (n := 4) (by decide)
    have := fmod_lo (-(ks.length : Int)) (n := 4) (by decide)
    omega
  unfold four
  unfold filled at hl ⊢
  rw [List.length_append, List.length_replicate] at hl
  generalize ((-(ks.length : Int)).fmod 4).toNat = z at hl hz ⊢
  rw [List.drop_append_of_le_length (Nat.le_of_lt h)]
  have hd : (ks.drop (4 * i)).length = ks.length - 4 * i := List.length_drop
  generalize ks.drop (4 * i) = d at hd
  rcases Nat.lt_or_ge d.length 4 with q | q
  · rw [List.take_of_length_le (l := d) (by omega)]
    have hz4 : d.length + z = 4 := by omega
    rcases d with _ | ⟨a, _ | ⟨b, _ | ⟨c, _ | ⟨e, d⟩⟩⟩⟩
    · exact absurd (show 0 + z = 4 from hz4) (fun e => by omega)
    · obtain rfl : z = 3 := Nat.add_left_cancel (n := 1) hz4
      rfl
    · obtain rfl : z = 2 := Nat.add_left_cancel (n := 2) hz4
      rfl
    · obtain rfl : z = 1 := Nat.add_left_cancel (n := 3) hz4
      rfl
    · exact absurd q (Nat.not_lt.mpr (Nat.le_add_left 4 d.length))
  · rw [List.take_append_of_le_length q, List.take_append_of_le_length (by rw [List.length_take]; omega), List.take_take]
    congr 1
theorem len_sign {n : Nat} (h0 : 0 < n) (h1 : n ≤ 52) : (lengthsI.drop (n - 1)).take 1 = [sign1 n] :=
  (by decide : ∀ m : Fin 52, (lengthsI.drop m.val).take 1 = [sign1 (m.val + 1)]) ⟨n - 1, by omega⟩ |>.trans (by rw [Nat.sub_add_cancel h0])
/-- between the turns: a name's bytes, and the ledger, told by K -/
noncomputable def JF (y : Str) (xs : List Str) (m₀ : Str → Option Value) (K : Nat → Array UInt8 → List (Addr × Obj) → Prop) (i : Nat) (m : Str → Option Value) (nx : List (Addr × Obj)) : Prop :=
  ∃ b t, K i b nx ∧ m y = some (.bytes b t) ∧ ∀ z, z ∉ xs → z ≠ y → m z = m₀ z
/-- between the turns: the ledger told by K -/
noncomputable def JK (xs : List Str) (m₀ : Str → Option Value) (K : Nat → List (Addr × Obj) → Prop) (i : Nat) (m : Str → Option Value) (nx : List (Addr × Obj)) : Prop := K i nx ∧ ∀ z, z ∉ xs → m z = m₀ z
section
variable {prog : Program} {w : World} {A : Around} {E : Value → Shared → Prop} {s : Shared} {env : Env} {h₀ : Heap} {x : Str} {body : List Stmt} {Q : Flow → Shared → Prop}
  {m₀ : Str → Option Value} {news : List (Addr × Obj)}
theorem iterRF {r : Addr} {i₀ j₀ c₀ : Int} {tr ur vr : Tok} {n : Nat} {b₀ : Array UInt8} {t₀ : Tok} (y : Str) (xs : List Str) (K : Nat → Array UInt8 → List (Addr × Obj) → Prop)
    (hr : IsRange s.heap r i₀ j₀ c₀ tr ur vr) (hsmall : Builtin.Range.small i₀ j₀ c₀ = true) (hn : Builtin.Range.rangeSize i₀ j₀ c₀ = (n : Int)) (hh : A.handled = none) (F : Fr h₀ env.locals s.heap m₀) (N : News h₀ env.locals s.heap news) (hy : m₀ y = some (.bytes b₀ t₀)) (h0 : K 0 b₀ news)
    (turn : ∀ i t b tb (u : Str → Option Value) nx h tk own, i < n → OwnOff own (news.map (·.1)) → nx.map (·.1) = news.map (·.1) → K i b nx → Fr h₀ env.locals h (fun z => if z = x then some (.int (i₀ + (i : Int) * c₀) t) else if z = y then some (.bytes b tb) else if z ∈ xs then u z else m₀ z) → News h₀ env.locals h (nx ++ own) →
      wpAny (model prog w) A (execs body env) (InvPostN h₀ env.locals (JF y xs m₀ K (i + 1)) own (news.map (·.1)) { s with heap := h, toks := tk } Q) E { s with heap := h, toks := tk })
    (done : ∀ b t (u : Str → Option Value) nx h tk, K n b nx → Fr h₀ env.locals h (fun z => if z = y then some (.bytes b t) else if z ∈ xs then u z else m₀ z) → News h₀ env.locals h nx → Q .next { s with heap := h, toks := tk }) :
    wpAny (model prog w) A (pyIter (.ref r)) (fun it s₂ => LoopAtV prog w A h₀ env x body Q E it s₂) E s := by
  refine iterR (JF y xs m₀ K) hr hsmall hn hh F N ⟨b₀, t₀, h0, hy, fun _ _ _ => rfl⟩ ?_ ?_
  · rintro i t m₁ nx h tk own hi ho ha ⟨b, tb, hK, hm, hz⟩ F₁ N₁
    obtain ⟨u, rfl⟩ := map1 xs hm hz
    exact turn i t b tb u nx h tk own hi ho ha hK F₁ N₁
  · rintro m₁ nx h tk ⟨b, tb, hK, hm, hz⟩ F₁ N₁
    obtain ⟨u, rfl⟩ := map1 xs hm hz
    exact done b tb u nx h tk hK F₁ N₁
theorem iterBK {b : Array UInt8} {tb : Tok} {ks : List Int} (xs : List Str) (K : Nat → List (Addr × Obj) → Prop)
    (hk : KBw.bInts b = ks) (hh : A.handled = none) (F : Fr h₀ env.locals s.heap m₀) (N : News h₀ env.locals s.heap news) (h0 : K 0 news)
    (turn : ∀ i k t (u : Str → Option Value) nx h tk own, ks[i]? = some k → 0 ≤ k → k < 256 → OwnOff own (news.map (·.1)) → nx.map (·.1) = news.map (·.1) → K i nx → Fr h₀ env.locals h (fun z => if z = x then some (.int k t) else if z ∈ xs then u z else m₀ z) → News h₀ env.locals h (nx ++ own) →
      wpAny (model prog w) A (execs body env) (InvPostN h₀ env.locals (JK xs m₀ K (i + 1)) own (news.map (·.1)) { s with heap := h, toks := tk } Q) E { s with heap := h, toks := tk })
    (done : ∀ (u : Str → Option Value) nx h tk, K ks.length nx → Fr h₀ env.locals h (fun z => if z ∈ xs then u z else m₀ z) → News h₀ env.locals h nx → Q .next { s with heap := h, toks := tk }) :
    wpAny (model prog w) A (pyIter (.bytes b tb)) (fun it s₂ => LoopAtV prog w A h₀ env x body Q E it s₂) E s := by
  refine iterB (JK xs m₀ K) hk hh F N ⟨h0, fun _ _ => rfl⟩ ?_ ?_
  · rintro i k t m₁ nx h tk own hi ho ha ⟨hK, hz⟩ F₁ N₁
    obtain ⟨u, rfl⟩ := map0 xs hz
    have hin := KBw.ints_in (b := b) (k := k) (by rw [hk]; exact List.mem_of_getElem? hi)
    exact turn i k t u nx h tk own hi hin.1 hin.2 ho ha hK F₁ N₁
  · rintro m₁ nx h tk ⟨hK, hz⟩ F₁ N₁
    obtain ⟨u, rfl⟩ := map0 xs hz
    exact done u nx h tk hK F₁ N₁
end
theorem inv_endF {h₀ h' : Heap} {L : Addr} {m' m₀ : Str → Option Value} {own news' nx : List (Addr × Obj)} {adr : List Addr} {s₁ : Shared} {tk : Nat} {y : Str} {xs : List Str} {K : Nat → Array UInt8 → List (Addr × Obj) → Prop} {i : Nat} {b : Array UInt8} {t : Tok}
    (hK : K i b nx) (F : Fr h₀ L h' m') (N : News h₀ L h' news') (hn : ∀ p ∈ nx, p ∈ news') (ho : ∀ p ∈ own, p ∈ news') (ha : nx.map (·.1) = adr) (hy : m' y = some (.bytes b t)) (hz : ∀ z, z ∉ xs → z ≠ y → m' z = m₀ z) :
    InvEndN h₀ L (JF y xs m₀ K i) own adr s₁ { s₁ with heap := h', toks := tk } :=
  ⟨h', tk, m', news', nx, rfl, F, N, hn, ho, ha, b, t, hK, hy, hz⟩
theorem inv_endK {h₀ h' : Heap} {L : Addr} {m' m₀ : Str → Option Value} {own news' nx : List (Addr × Obj)} {adr : List Addr} {s₁ : Shared} {tk : Nat} {xs : List Str} {K : Nat → List (Addr × Obj) → Prop} {i : Nat}
    (hK : K i nx) (F : Fr h₀ L h' m') (N : News h₀ L h' news') (hn : ∀ p ∈ nx, p ∈ news') (ho : ∀ p ∈ own, p ∈ news') (ha : nx.map (·.1) = adr) (hz : ∀ z, z ∉ xs → m' z = m₀ z) :
    InvEndN h₀ L (JK xs m₀ K i) own adr s₁ { s₁ with heap := h', toks := tk } :=
  ⟨h', tk, m', news', nx, rfl, F, N, hn, ho, ha, hK, hz⟩
theorem size4' {n : Nat} : Builtin.Range.rangeSize 0 (4 * n : Nat) 4 = (n : Int) := (size4 _).trans (by omega)
theorem num_take {ks : List Int} {j : Nat} {k : Int} (h : ks[j]? = some k) : num (ks.take (j + 1)) = num (ks.take j) * 256 + k := by
  rw [List.take_add_one, h]
  simp only [num, Option.toList_some, List.foldl_append, List.foldl_cons, List.foldl_nil]
  rw [Int.mul_comm]
theorem fill_clip {fl : List Int} {i n : Nat} (hl : fl.length = 4 * n) (h : i < n) :
    List.take (clipAt fl.length (0 + (i : Int) * 4 + 4) - clipAt fl.length (0 + (i : Int) * 4)) (List.drop (clipAt fl.length (0 + (i : Int) * 4)) fl) = (fl.drop (4 * i)).take 4 := by
  have e1 : (0 + (i : Int) * 4) = ((4 * i : Nat) : Int) := by omega
  have e2 : (0 + (i : Int) * 4 + 4) = ((4 * i + 4 : Nat) : Int) := by omega
  rw [e2, e1]
  simp only [clipAt_nat]
  rw [Nat.min_eq_left (by omega), Nat.min_eq_left (by omega)]
  congr 1
  omega
theorem locC {n : Str} {sc : Scope} {L a : Addr} {cd : Value} : (envOfC n sc L a cd).locals = L := rfl
theorem locP {n : Str} {sc : Scope} {L a : Addr} {cd : Value} : (envOf n sc L a cd).locals = L := rfl
theorem own_two {own own' : List (Addr × Obj)} {c : Addr} {o o' : Obj} (h : OwnOff own (List.map (fun x => x.fst) [(c, o)])) (h' : OwnOff own' (List.map (fun x => x.fst) ((c, o') :: own))) : ∃ ow, own ++ own' = ow ∧ OwnOff ow [c] :=
  ⟨_, rfl, fun p hp b hb => by
    rw [List.mem_singleton.mp hb]
    rcases List.mem_append.mp hp with hp | hp
    · exact h p hp c (by simp)
    · exact h' p hp c (by simp)⟩
theorem sgn_getD (x : Int) : signsI.getD (x.fmod 85).toNat 0 = sgn x := (KBw.getD_ints signs85 _).symm
theorem group_list (n : Int) : ((List.range 5).map fun (i : Nat) => (fun k : Int => sgn (n.fdiv (85 ^ k.toNat))) (4 + (i : Int) * -1)) = group5 n := by
  have e4 : n.fdiv (85 ^ (4 : Int).toNat) = (((n.fdiv 85).fdiv 85).fdiv 85).fdiv 85 := by
    rw [show (85 : Int) ^ (4 : Int).toNat = 52200625 from by decide]
    simp only [Int.fdiv_eq_ediv_of_nonneg _ (by decide : (0 : Int) ≤ 52200625), Int.fdiv_eq_ediv_of_nonneg _ (by decide : (0 : Int) ≤ 85)]; omega
  have e3 : n.fdiv (85 ^ (3 : Int).toNat) = ((n.fdiv 85).fdiv 85).fdiv 85 := by
    rw [show (85 : Int) ^ (3 : Int).toNat = 614125 from by decide]
    simp only [Int.fdiv_eq_ediv_of_nonneg _ (by decide : (0 : Int) ≤ 614125), Int.fdiv_eq_ediv_of_nonneg _ (by decide : (0 : Int) ≤ 85)]; omega
  have e2 : n.fdiv (85 ^ (2 : Int).toNat) = (n.fdiv 85).fdiv 85 := by
    rw [show (85 : Int) ^ (2 : Int).toNat = 7225 from by decide]
    simp only [Int.fdiv_eq_ediv_of_nonneg _ (by decide : (0 : Int) ≤ 7225), Int.fdiv_eq_ediv_of_nonneg _ (by decide : (0 : Int) ≤ 85)]; omega
  have e1 : n.fdiv (85 ^ (1 : Int).toNat) = n.fdiv 85 := by rw [show (85 : Int) ^ (1 : Int).toNat = 85 from by decide]
  have e0 : n.fdiv (85 ^ (0 : Int).toNat) = n := by
    rw [show (85 : Int) ^ (0 : Int).toNat = 1 from by decide, Int.fdiv_one]
  show [sgn (n.fdiv (85 ^ (4 : Int).toNat)), sgn (n.fdiv (85 ^ (3 : Int).toNat)), sgn (n.fdiv (85 ^ (2 : Int).toNat)), sgn (n.fdiv (85 ^ (1 : Int).toNat)), sgn (n.fdiv (85 ^ (0 : Int).toNat))] = group5 n
  rw [e4, e3, e2, e1, e0]
  rfl
theorem group5_in (n : Int) : ∀ k ∈ group5 n, 0 ≤ k ∧ k < 256 := by
  intro k hk
  simp only [group5, List.mem_cons, List.not_mem_nil, or_false] at hk
  rcases hk with rfl | rfl | rfl | rfl | rfl <;> exact sgn_in _
theorem pw_facts {k : Int} (h0 : 0 ≤ k) (h1 : k ≤ 5) : ((85 : Int) ^ k.toNat ≠ 0 ∧ ((85 : Int) ^ k.toNat).natAbs.log2 < 9000) ∧ ((256 : Int) ^ k.toNat ≠ 0 ∧ ((256 : Int) ^ k.toNat).natAbs.log2 < 9000) ∧ ((8 : Int) ^ k.toNat ≠ 0 ∧ ((8 : Int) ^ k.toNat).natAbs.log2 < 9000) := by
  have h : k = 0 ∨ k = 1 ∨ k = 2 ∨ k = 3 ∨ k = 4 ∨ k = 5 := by omega
  rcases h with rfl | rfl | rfl | rfl | rfl | rfl <;> decide

section
set_option pp.deepTerms false
set_option pp.maxSteps 1500
theorem c_lawrow (hh : A.handled = none) (B : Below A base outer s.heap) (X : (hd.heap_39 w.params).In s.heap) (T : Top hd.view_39 LO mean mg mb s.heap) (hdp : A.depth + 60 < recursionLimit) (hun : A.units + 180 < cLine)
    {b : Array UInt8} {ks : List Int} {t : Tok} (hb : KBw.bInts b = ks) (hk0 : 0 < ks.length) (hk : ks.length ≤ 52)
    (hQ : ∀ b' t' h', KBw.bInts b' = rowBody ks ((ks.length + 3) / 4) → Keeps s.heap h' → ∀ tk', Q (.bytes b' t') { s with heap := h', toks := tk' }) :
    wpAny (model PySem.Challenge.rw_pb0094_01.row.prog w) A (call (.ref 185) [.bytes b t]) Q E s := by
  have mark0 := @Mark.on "comp"
  have mark1 := @Mark.on "for"
  have mark2 := @Mark.on "bytes"
  have mark3 := @Mark.on "ref"
  ((((
  (with_reducible rename Frag.In _ _ => mX0); revert mX0; k_fill; intro mX1
  (with_reducible rename Below _ _ _ _ => mB0); (with_reducible rename (Around.handled _ = none) => mh0); (with_reducible rename (Around.depth _ + _ < recursionLimit) => md0); (with_reducible rename (Around.units _ + _ < cLine) => mu0)
  first | refine m_open mh0 mB0 md0 mu0 ?_ | refine s_open mh0 mB0 md0 mu0 ?_
  clear mh0 mB0 md0 mu0
  intro zdp zun zgd mB1 md1 mu1)); (first
  | (refine' enterP ?s1x35x36 ?s2x35x36 ?s3x35x36 ?s4x35x36 ?s5x35x36 ?s6x35x36 ?s7x35x36 ?s8x35x36 ?s9x35x36 ?_ ?s11x35x36 ?s12x35x36 ?s13x35x36 ?s14x35x36; (((case s1x35x36 => k_asm); (case s2x35x36 => k_asm); (case s3x35x36 => k_asm); (case s4x35x36 => first | assumption | exact Led.refl _); (case s5x35x36 => k_is); (case s6x35x36 => k_is); (case s7x35x36 => walk_at "m_rd"); (case s8x35x36 => first | exact BindsTo.of_eq rfl | exact binds_K (by k_in) rfl (by k_is) rfl rfl rfl); (case s9x35x36 => first | exact rfl | exact locs rfl); (try (case s10x35x36 => first | exact rfl | decide +kernel)); (case s11x35x36 => exact rfl); (case s12x35x36 => exact rfl); (case s13x35x36 => exact rfl))); (case s14x35x36 => decide); k_whole; intro zL zh zF zN; (try dsimp only); (try k_fold))
  | (refine' enterC ?s1x35x36 ?s2x35x36 ?s3x35x36 ?s4x35x36 ?s5x35x36 ?s6x35x36 ?s7x35x36 ?s8x35x36 ?s9x35x36 ?s10x35x36 ?_ ?s11x35x36 ?s12x35x36 ?s13x35x36; (((case s1x35x36 => k_asm); (case s2x35x36 => k_asm); (case s3x35x36 => k_asm); (case s4x35x36 => first | assumption | exact Led.refl _); (case s5x35x36 => k_is); (case s6x35x36 => k_is); (case s7x35x36 => walk_at "m_rd"); (case s8x35x36 => first | exact BindsTo.of_eq rfl | exact binds_K (by k_in) rfl (by k_is) rfl rfl rfl); (case s9x35x36 => first | exact rfl | exact locs rfl); (try (case s10x35x36 => first | exact rfl | decide +kernel)); (case s11x35x36 => exact rfl); (case s12x35x36 => exact rfl); (case s13x35x36 => exact rfl))); k_whole; intro zL zh ztk zcells zF zN zY zl; (try k_lt zl); k_cells zY; (try simp only [List.cons_append, List.nil_append] at zN); (try dsimp only); (try k_fold)))))
  have hl9 : lengthsI.length = 52 := by decide
  have hs85 : signsI.length = 85 := by decide
  have hf0 : 0 ≤ (-(ks.length : Int)).fmod 4 := fmod_lo _ (by decide)
  have hf1 : (-(ks.length : Int)).fmod 4 < 4 := fmod_hi _ (by decide)
  refine joinBytesA (Str.ofString "found") (fun l => l = [sign1 ks.length]) (by k_asm) (by k_asm) ?_ ?_
  · (repeat' (first | (k_unfold; (try dsimp only)) | walk1 | (k_unmd; k_unfold; (try dsimp only)) | (dsimp only; first | (k_unfold; (try dsimp only)) | walk1)))
    (refine GivesBytes_mk (by k_asm) (by (first | k_asm | exact News.nil | (intro p hp; (rename News _ _ _ _ => mN); exact mN p (by simp_all)))) ⟨_, _, rfl⟩ ?_)
    rename KBw.bInts (KBy.picked _ _ _) = _ => hkP
    rw [hkP]
    have e1 : ((ks.length : Int) - 1) = ((ks.length - 1 : Nat) : Int) := by omega
    rw [hl9, e1, clipAt_nat, Nat.min_eq_left (by omega), Nat.min_eq_left (by omega), show ks.length - (ks.length - 1) = 1 by omega]
    exact len_sign hk0 hk
  · intro bf tf h1 tk1 ef F1 N1
    refine joinBytesA (Str.ofString "filled") (fun l => l = filled ks) (by k_asm) (by k_asm) ?_ ?_
    · (repeat' (first | (k_unfold; (try dsimp only)) | walk1 | (k_unmd; k_unfold; (try dsimp only)) | (dsimp only; first | (k_unfold; (try dsimp only)) | walk1)))
      (refine GivesBytes_mk (by k_asm) (by (first | k_asm | exact News.nil | (intro p hp; (rename News _ _ _ _ => mN); exact mN p (by simp_all)))) ⟨_, _, rfl⟩ ?_)
      exact ‹KBw.bInts (b ++ _) = _›
    · intro bg tg h2 tk2 eg F2 N2
      have hl2 := filled_length ks
      generalize hfl : filled ks = fl at eg hl2
      (repeat' (first | (k_unfold; (try dsimp only)) | walk1 | (k_unmd; k_unfold; (try dsimp only)) | (dsimp only; first | (k_unfold; (try dsimp only)) | walk1)))
      rename Fr _ _ _ _ => F3
      rename News _ _ _ _ => N3
      rename IsRange _ _ _ _ _ _ _ _ => hr3
      rename Obj.data _ = Data.cell _ => hd3
      unfold Hold
      rw [hl2] at hr3
      refine iterRF (n := (ks.length + 3) / 4) (Str.ofString "found") [Str.ofString "at", Str.ofString "octet"] (fun i b nx => KBw.bInts b = rowBody ks i ∧ ∃ a oc vc, nx = [(a, oc)] ∧ oc.data = Data.cell vc) hr3 (small4 (by omega)) size4' rfl F3 N3 (by rfl) ⟨ef, _, _, _, rfl, hd3⟩ ?_ ?_
      · rintro i t b1 tb1 u nx h tk own hi ho hadr ⟨hb1, a, oc, vc, rfl, hdc⟩ F4 N4
        obtain rfl := List.cons.inj hadr |>.1
        simp only [List.cons_append, List.nil_append] at N4
        rw [locC] at F4 N4
        (repeat' (first | (k_unfold; (try dsimp only)) | walk1 | (k_unmd; k_unfold; (try dsimp only)) | (dsimp only; first | (k_unfold; (try dsimp only)) | walk1)))
        rename KBw.bInts (KBy.picked bg _ _) = _ => hkP
        rw [fill_clip hl2 hi, ← hfl, filled_four (by omega)] at hkP
        have hnb := num_in (four_length (ks := ks) (i := i) (by omega)) (fun k hk' => KBw.ints_in (b := KBy.picked bg _ _) (by rw [hkP]; exact hk'))
        have hf4 := four_length (ks := ks) (i := i) (by omega)
        rename Fr _ _ _ _ => F5
        rename News _ _ _ _ => N5
        rename Obj.data _ = Data.cell (some _) => hd5
        unfold Hold
        refine iterBK [Str.ofString "octet"] (fun j nx => ∃ oc tn, nx = (_, oc) :: own ∧ oc.data = Data.cell (some (.int (num ((four ks i).take j)) tn))) hkP rfl F5 N5 ⟨_, _, rfl, hd5⟩ ?_ ?_
        · rintro j k t' u' nx h' tk' own' hj h0 h1 ho' hadr' ⟨oc', tn, rfl, hdc'⟩ F6 N6
          simp only [List.cons_append] at N6
          rw [locC] at F6 N6
          obtain ⟨ow, eow, how⟩ := own_two ho ho'
          rw [eow] at N6
          (repeat' (first | (k_unfold; (try dsimp only)) | walk1 | (k_unmd; k_unfold; (try dsimp only)) | (dsimp only; first | (k_unfold; (try dsimp only)) | walk1)))
          subst eow
          rename Obj.data _ = Data.cell (some (Value.int (num _ * 256 + k) _)) => hd7
          rw [← num_take hj] at hd7
          exact inv_endK (nx := (_, _) :: own) ⟨_, _, rfl, hd7⟩ (by k_asm) (by k_asm) (fun p hp => (List.mem_cons.mp hp).elim (fun e => by rw [e]; exact List.mem_cons_self) fun hp => List.mem_cons_of_mem _ (List.mem_append_left _ hp)) (fun p hp => List.mem_cons_of_mem _ (List.mem_append_right _ hp)) (by rfl) (by ((intros; (try simp only [List.mem_cons, List.not_mem_nil, or_false, not_or] at *); first | rfl | simp_all)))
        · rintro u' nx h' tk' ⟨oc', tn, rfl, hdc'⟩ F6 N6
          rw [List.take_length] at hdc'
          rw [locC] at F6 N6
          (repeat' (first | (k_unfold; (try dsimp only)) | walk1 | (k_unmd; k_unfold; (try dsimp only)) | (dsimp only; first | (k_unfold; (try dsimp only)) | walk1)))
          unfold Hold
          (((refine compW (F₀ := by k_asm) (by with_unfolding_all rfl) (by decide) (by rfl) (by decide) (by rfl) ?_)))
          (repeat' (first | (k_unfold; (try dsimp only)) | walk1 | (k_unmd; k_unfold; (try dsimp only)) | (dsimp only; first | (k_unfold; (try dsimp only)) | walk1)))
          rename Fr _ _ _ _ => F7
          rename News _ _ _ _ => N7
          rename IsRange _ _ _ _ _ _ _ _ => hr7
          unfold Hold
          refine iterCRm (n := 5) (fun k => sgn ((num (four ks i)).fdiv (85 ^ k.toNat))) hr7 (by decide) (by decide) (by decide) rfl F7 N7 ?_ ?_
          · intro j t9 I oI C oC D m₂ ys h9 tk9 s₁ E' hj hC hx F N off ne hs1
            obtain ⟨g, rfl⟩ := hs1
            have hk0 : 0 ≤ 4 + (j : Int) * -1 := by omega
            have hk1 : 4 + (j : Int) * -1 ≤ 4 := by omega
            generalize 4 + (j : Int) * -1 = kv at hx hk0 hk1 ⊢
            have hpw := (pw_facts hk0 (Int.le_trans hk1 (by decide))).1
            have hq0 := fmod_lo ((num (four ks i)).fdiv (85 ^ kv.toNat)) (n := 85) (by decide)
            have hq1 := fmod_hi ((num (four ks i)).fdiv (85 ^ kv.toNat)) (n := 85) (by decide)
            (repeat' (first | (k_unfold; (try dsimp only)) | walk1 | (k_unmd; k_unfold; (try dsimp only)) | (dsimp only; first | (k_unfold; (try dsimp only)) | walk1)))
            refine floordiv_int hpw.1 ?_ (Or.inl (PyProof.noPylong_of_log2 hpw.2))
            (repeat' (first | (k_unfold; (try dsimp only)) | walk1 | (k_unmd; k_unfold; (try dsimp only)) | (dsimp only; first | (k_unfold; (try dsimp only)) | walk1)))
            exact LCg.CompEnd.intro (by k_asm) (by k_asm) _ (fun p hp => hp) off trivial ⟨rfl, _, congrArg (fun z => Value.int z _) (sgn_getD _)⟩
          · intro D h9 tk9 ys hy F N
            (repeat' (first | (k_unfold; (try dsimp only)) | walk1 | (k_unmd; k_unfold; (try dsimp only)) | (dsimp only; first | (k_unfold; (try dsimp only)) | walk1)))
            have hrl := rowBody_length ks i
            rw [group_list] at hy
            refine KBa.make_K F N rfl (News.isList N (by k_mem)) hy (group5_in _) (Nat.le_of_ble_eq_true rfl) fun h' t' k F N hin => ?_
            have hb9 := KBa.ints_make hin
            have hg5 : (group5 (num (four ks i))).length = 5 := rfl
            (repeat' (first | (k_unfold; (try dsimp only)) | walk1 | (k_unmd; k_unfold; (try dsimp only)) | (dsimp only; first | (k_unfold; (try dsimp only)) | walk1)))
            rename KBw.bInts (b1 ++ _) = _ => ka
            exact inv_endF (nx := [(_, oc')]) ⟨ka, _, _, _, rfl, hdc'⟩ (by k_asm) (by k_asm) (fun p hp => List.mem_cons_of_mem _ (by rw [List.mem_singleton.mp hp]; exact List.mem_cons_self)) (fun p hp => List.mem_cons_of_mem _ (List.mem_cons_of_mem _ hp)) (by rfl) (by rfl) (by ((intros; (try simp only [List.mem_cons, List.not_mem_nil, or_false, not_or] at *); first | rfl | simp_all)))
      · rintro b1 tb1 u nx h tk ⟨hb1, a, oc, vc, rfl, hdc⟩ F4 N4
        (repeat' (first | (k_unfold; (try dsimp only)) | walk1 | (k_unmd; k_unfold; (try dsimp only)) | (dsimp only; first | (k_unfold; (try dsimp only)) | walk1)))
        exact hQ _ _ _ hb1 (Fr.keep (by k_asm)) _
end

theorem place_no {k : Int} (h : signsI.contains k = false) : ¬ 0 ≤ placeI signsI k := by
  have hf : signsI.findIdx? (· == k) = none := by
    rw [List.findIdx?_eq_none_iff]
    intro x hx
    cases hq : x == k with
    | false => rfl
    | true =>
      rw [beq_iff_eq] at hq
      subst hq
      rw [List.contains_iff_mem.mpr hx] at h
      cases h
  unfold placeI
  rw [hf]
  decide
theorem place_at {k : Int} (h : signsI.contains k = true) : ∃ i : Nat, signsI.findIdx? (· == k) = some i ∧ placeI signsI k = (i : Int) := by
  cases hq : signsI.findIdx? (· == k) with
  | some i => exact ⟨i, rfl, by unfold placeI; rw [hq]⟩
  | none =>
    rw [List.findIdx?_eq_none_iff] at hq
    have := hq k (List.contains_iff_mem.mp h)
    simp at this
theorem num85_bad {k : Int} (hk : ¬ 0 ≤ placeI signsI k) : ∀ (l : List Int) (n : Int), k ∈ l → num85 n l = none
  | [], _, h => nomatch h
  | x :: r, n, h => by
    simp only [num85]
    split
    · rename_i hx
      rcases List.mem_cons.mp h with rfl | h
      · exact absurd hx hk
      · exact num85_bad hk r _ h
    · rfl
theorem first_sign {k : Int} (h0 : 0 ≤ k) (h1 : k < 256) (h : manyOf k ≠ 0) : signsI.contains k = true := by
  have := (by decide +kernel : ∀ m : Fin 256, manyOf ((m.val : Nat) : Int) ≠ 0 → signsI.contains ((m.val : Nat) : Int) = true) ⟨k.toNat, by omega⟩
  simp only [Int.toNat_of_nonneg h0] at this
  exact this h
theorem bad_sign {ks : List Int} {n : Nat} (hn : ks.length = 1 + 5 * n) (h0 : signsI.contains (ks.getD 0 0) = true) (h : List.filter (fun k => !signsI.contains k) ks ≠ []) : readG ks n = none := by
  obtain ⟨k, hk⟩ := List.exists_mem_of_ne_nil _ h
  obtain ⟨hm, hb⟩ := List.mem_filter.mp hk
  have hb : signsI.contains k = false := by simpa using hb
  obtain ⟨j, hj, rfl⟩ := List.getElem_of_mem hm
  have hj0 : j ≠ 0 := by
    rintro rfl
    rw [List.getD_eq_getElem?_getD, List.getElem?_eq_getElem hj] at h0
    simp only [Option.getD_some] at h0
    rw [h0] at hb; cases hb
  have hi : (j - 1) / 5 < n := by omega
  refine readG_none (i := (j - 1) / 5 + 1) ?_ hi
  have hg : num85 0 (grp ks ((j - 1) / 5)) = none := by
    refine num85_bad (place_no hb) _ _ ?_
    unfold grp
    rw [List.mem_iff_getElem?]
    refine ⟨(j - 1) % 5, ?_⟩
    rw [List.getElem?_take_of_lt (by omega), List.getElem?_drop, show 1 + 5 * ((j - 1) / 5) + (j - 1) % 5 = j by omega]
    exact List.getElem?_eq_getElem hj
  simp only [readG, hg]
  split <;> rfl
theorem good_sign {ks : List Int} (h : List.filter (fun k => !signsI.contains k) ks = []) {k : Int} (hk : k ∈ ks) : signsI.contains k = true := by
  have := List.filter_eq_nil_iff.mp h k hk
  simpa using this
theorem be4_list (n : Int) : [n.fdiv (256 ^ (3 : Int).toNat) |>.fmod 256, n.fdiv (256 ^ (2 : Int).toNat) |>.fmod 256, n.fdiv (256 ^ (1 : Int).toNat) |>.fmod 256, n.fdiv (256 ^ (0 : Int).toNat) |>.fmod 256] = be4 n := by
  rw [show (256 : Int) ^ (3 : Int).toNat = 16777216 from by decide, show (256 : Int) ^ (2 : Int).toNat = 65536 from by decide, show (256 : Int) ^ (1 : Int).toNat = 256 from by decide, show (256 : Int) ^ (0 : Int).toNat = 1 from by decide]
  simp only [Int.fdiv_eq_ediv_of_nonneg _ (by decide : (0 : Int) ≤ 16777216), Int.fdiv_eq_ediv_of_nonneg _ (by decide : (0 : Int) ≤ 65536), Int.fdiv_eq_ediv_of_nonneg _ (by decide : (0 : Int) ≤ 256), Int.fdiv_one, Int.fmod_eq_emod_of_nonneg _ (by decide : (0 : Int) ≤ 256)]
  rfl

theorem length_many : ∀ k : Fin 256, (lengthsI.contains ((k.val : Nat) : Int)) = decide (manyOf ((k.val : Nat) : Int) ≠ 0) ∧ (manyOf ((k.val : Nat) : Int) ≠ 0 → (lengthsI.findIdx? (· == ((k.val : Nat) : Int))).map (fun (i : Nat) => (i : Int) + 1) = some (manyOf ((k.val : Nat) : Int))) := by decide +kernel
theorem length_in {k : Int} (h0 : 0 ≤ k) (h1 : k < 256) : lengthsI.contains k = decide (manyOf k ≠ 0) := by
  have := (length_many ⟨k.toNat, by omega⟩).1
  simpa [Int.toNat_of_nonneg h0] using this
theorem length_at {k : Int} (h0 : 0 ≤ k) (h1 : k < 256) (h : manyOf k ≠ 0) : ∃ i : Nat, lengthsI.findIdx? (· == k) = some i ∧ (i : Int) + 1 = manyOf k := by
  have := (length_many ⟨k.toNat, by omega⟩).2
  simp only [Int.toNat_of_nonneg h0] at this
  obtain ⟨i, hi, e⟩ := Option.map_eq_some_iff.mp (this h)
  exact ⟨i, hi, e⟩
theorem nil_ints' {b : Array UInt8} {ks : List Int} (hb : KBw.bInts b = ks) (h : (b.toList == #[].toList) = false) : 0 < ks.length := by
  subst hb
  rcases b with ⟨l⟩
  cases l with
  | nil => simp at h
  | cons x l => rw [KBw.ints_length]; simp
section
set_option pp.deepTerms false
set_option pp.maxSteps 1500
theorem c_lawread (hh : A.handled = none) (B : Below A base outer s.heap) (X : (hd.heap_39 w.params).In s.heap) (T : Top hd.view_39 LO mean mg mb s.heap) (hdp : A.depth + 60 < recursionLimit) (hun : A.units + 180 < cLine)
    {b : Array UInt8} {ks : List Int} {t : Tok} (hb : KBw.bInts b = ks) (hk : ks.length ≤ 4096)
    (hN : ∀ D h' b2 t2, readOf ks = none → (KBw.bInts b2).length ≤ 60 → Keeps s.heap h' → s.heap.get? D = none → h'.get? D = some { cls := .type "tuple", data := .seq #[.none, .bytes b2 t2] } → ∀ tk', Q (.ref D) { s with heap := h', toks := tk' })
    (hS : ∀ D h' b1 t1 b2 t2, readOf ks = some (KBw.bInts b1) → (KBw.bInts b2).length ≤ 60 → Keeps s.heap h' → s.heap.get? D = none → h'.get? D = some { cls := .type "tuple", data := .seq #[.bytes b1 t1, .bytes b2 t2] } → ∀ tk', Q (.ref D) { s with heap := h', toks := tk' }) :
    wpAny (model PySem.Challenge.rw_pb0094_01.row.prog w) A (call (.ref 190) [.bytes b t]) Q E s := by
  have mark0 := @Mark.on "comp"
  have mark1 := @Mark.on "for"
  have mark2 := @Mark.on "bytes"
  have mark3 := @Mark.on "ref"
  ((((
  (with_reducible rename Frag.In _ _ => mX0); revert mX0; k_fill; intro mX1
  (with_reducible rename Below _ _ _ _ => mB0); (with_reducible rename (Around.handled _ = none) => mh0); (with_reducible rename (Around.depth _ + _ < recursionLimit) => md0); (with_reducible rename (Around.units _ + _ < cLine) => mu0)
  first | refine m_open mh0 mB0 md0 mu0 ?_ | refine s_open mh0 mB0 md0 mu0 ?_
  clear mh0 mB0 md0 mu0
  intro zdp zun zgd mB1 md1 mu1)); (first
  | (refine' enterP ?s1x37x38 ?s2x37x38 ?s3x37x38 ?s4x37x38 ?s5x37x38 ?s6x37x38 ?s7x37x38 ?s8x37x38 ?s9x37x38 ?_ ?s11x37x38 ?s12x37x38 ?s13x37x38 ?s14x37x38; (((case s1x37x38 => k_asm); (case s2x37x38 => k_asm); (case s3x37x38 => k_asm); (case s4x37x38 => first | assumption | exact Led.refl _); (case s5x37x38 => k_is); (case s6x37x38 => k_is); (case s7x37x38 => walk_at "m_rd"); (case s8x37x38 => first | exact BindsTo.of_eq rfl | exact binds_K (by k_in) rfl (by k_is) rfl rfl rfl); (case s9x37x38 => first | exact rfl | exact locs rfl); (try (case s10x37x38 => first | exact rfl | decide +kernel)); (case s11x37x38 => exact rfl); (case s12x37x38 => exact rfl); (case s13x37x38 => exact rfl))); (case s14x37x38 => decide); k_whole; intro zL zh zF zN; (try dsimp only); (try k_fold))
  | (refine' enterC ?s1x37x38 ?s2x37x38 ?s3x37x38 ?s4x37x38 ?s5x37x38 ?s6x37x38 ?s7x37x38 ?s8x37x38 ?s9x37x38 ?s10x37x38 ?_ ?s11x37x38 ?s12x37x38 ?s13x37x38; (((case s1x37x38 => k_asm); (case s2x37x38 => k_asm); (case s3x37x38 => k_asm); (case s4x37x38 => first | assumption | exact Led.refl _); (case s5x37x38 => k_is); (case s6x37x38 => k_is); (case s7x37x38 => walk_at "m_rd"); (case s8x37x38 => first | exact BindsTo.of_eq rfl | exact binds_K (by k_in) rfl (by k_is) rfl rfl rfl); (case s9x37x38 => first | exact rfl | exact locs rfl); (try (case s10x37x38 => first | exact rfl | decide +kernel)); (case s11x37x38 => exact rfl); (case s12x37x38 => exact rfl); (case s13x37x38 => exact rfl))); k_whole; intro zL zh ztk zcells zF zN zY zl; (try k_lt zl); k_cells zY; (try simp only [List.cons_append, List.nil_append] at zN); (try dsimp only); (try k_fold)))))
  have hl9 : lengthsI.length = 52 := by decide
  have hs85 : signsI.length = 85 := by decide
  (repeat' (first | (k_unfold; (try dsimp only)) | walk1 | (k_unmd; k_unfold; (try dsimp only)) | (dsimp only; first | (k_unfold; (try dsimp only)) | walk1)))
  · refine hN _ _ #[] _ ?_ (by decide) (Fr.keep (by k_asm)) (News.fresh (by k_asm) (by k_mem)) (News.get (by k_asm) (by k_mem)) _
    have e : ks = [] := by
      have h9 : (b.toList == #[].toList) = true := by assumption
      rcases b with ⟨l⟩
      cases l with
      | nil => exact hb.symm
      | cons x l => simp at h9
    rw [e]; rfl
  have hz := nil_ints' hb (by assumption)
  have hin0 := KBw.getD_in (ks := ks) (j := 0) fun k hk' => KBw.ints_in (b := b) (by rw [hb]; exact hk')
  have ef := firstOf_get hz
  (repeat' (first | (k_unfold; (try dsimp only)) | walk1 | (k_unmd; k_unfold; (try dsimp only)) | (dsimp only; first | (k_unfold; (try dsimp only)) | walk1)))
  rotate_left
  · refine hN _ _ #[] _ ?_ (by decide) (Fr.keep (by k_asm)) (News.fresh (by k_asm) (by k_mem)) (News.get (by k_asm) (by k_mem)) _
    have h9 : lengthsI.contains (ks.getD (Int.toNat 0) 0) = false := by assumption
    replace h9 : lengthsI.contains (ks.getD 0 0) = false := h9
    rw [length_in hin0.1 hin0.2] at h9
    unfold readOf
    rw [ef, if_pos (.inl (by simpa using h9))]
  have h9 : lengthsI.contains (ks.getD (Int.toNat 0) 0) = true := by assumption
  replace h9 : lengthsI.contains (ks.getD 0 0) = true := h9
  rw [length_in hin0.1 hin0.2] at h9
  have hm0 : manyOf (ks.getD 0 0) ≠ 0 := by simpa using h9
  obtain ⟨im, him, hme⟩ := length_at hin0.1 hin0.2 hm0
  have hmin := manyOf_in (ks.getD 0 0)
  refine index_K (by kba_ints) hin0.1 hin0.2 him fun t' k' => ?_
  (repeat' (first | (k_unfold; (try dsimp only)) | walk1 | (k_unmd; k_unfold; (try dsimp only)) | (dsimp only; first | (k_unfold; (try dsimp only)) | walk1)))
  · refine hN _ _ #[] _ ?_ (by decide) (Fr.keep (by k_asm)) (News.fresh (by k_asm) (by k_mem)) (News.get (by k_asm) (by k_mem)) _
    have h8 : (ks.length : Int) - 1 ≠ ((im : Int) + 1 + 3).fdiv 4 * 5 := by assumption
    rw [Int.fdiv_eq_ediv_of_nonneg _ (by decide : (0 : Int) ≤ 4)] at h8
    unfold readOf
    rw [ef, if_pos (.inr (by rw [← hme]; omega))]
  rename (ks.length : Int) - 1 = Int.fdiv _ 4 * 5 => h8
  rw [Int.fdiv_eq_ediv_of_nonneg _ (by decide : (0 : Int) ≤ 4)] at h8
  obtain ⟨n, hn, hn2, hn3⟩ : ∃ n : Nat, ks.length = 1 + 5 * n ∧ (n : Int) = (manyOf (ks.getD 0 0) + 3) / 4 ∧ n ≤ 13 := ⟨(((im : Int) + 1 + 3) / 4).toNat, by omega, by omega, by omega⟩
  have eR : readOf ks = (readG ks n).map (·.take (manyOf (ks.getD 0 0)).toNat) := by
    unfold readOf
    rw [ef, if_neg (by intro q; rcases q with q | q <;> omega), show (ks.length - 1) / 5 = n by omega]
  have hek : (im : Int) + 1 = (((manyOf (ks.getD 0 0)).toNat : Nat) : Int) := by omega
  clear hk h8 hn2 hme hmin
  have hk66 : ks.length ≤ 66 := by omega
  unfold Hold
  (((refine compWT (F₀ := by k_asm) (by with_unfolding_all rfl) (by decide) (by rfl) (by decide) (by rfl) ?_)))
  (repeat' (first | (k_unfold; (try dsimp only)) | walk1 | (k_unmd; k_unfold; (try dsimp only)) | (dsimp only; first | (k_unfold; (try dsimp only)) | walk1)))
  (rename Fr _ _ _ _ => F1); (rename News _ _ _ _ => N1)
  unfold Hold
  refine iterCBf (fun k => !signsI.contains k) hb (by omega) rfl F1 N1 ?_ ?_
  · intro k t I oI C oC D m₂ ys h tk s₁ E' hk h0 h1 hC hx F N off ne hs1
    obtain ⟨g, rfl⟩ := hs1
    (repeat' (first | (k_unfold; (try dsimp only)) | walk1 | (k_unmd; k_unfold; (try dsimp only)) | (dsimp only; first | (k_unfold; (try dsimp only)) | walk1)))
    · exact LCg.CompEnd.intro (by k_asm) (by k_asm) _ (fun p hp => hp) off trivial ⟨rfl, by rw [‹signsI.contains k = true›]; rfl⟩
    · exact LCg.CompEnd.intro (by k_asm) (by k_asm) _ (fun p hp => hp) off trivial ⟨rfl, by rw [‹signsI.contains k = false›]; rfl, _, rfl⟩
  · intro D h tk ys hy F N
    (repeat' (first | (k_unfold; (try dsimp only)) | walk1 | (k_unmd; k_unfold; (try dsimp only)) | (dsimp only; first | (k_unfold; (try dsimp only)) | walk1)))
    rotate_left
    · refine hN _ _ #[] _ ?_ (by decide) (Fr.keep (by k_asm)) (News.fresh (by k_asm) (by k_mem)) (News.get (by k_asm) (by k_mem)) _
      rw [eR, bad_sign hn (first_sign hin0.1 hin0.2 hm0) (of_decide_eq_false ‹decide (List.filter _ ks = []) = false›)]
      rfl
    have hall := of_decide_eq_true ‹decide (List.filter _ ks = []) = true›
    rename Fr _ _ _ _ => F2
    rename News _ _ _ _ => N2
    rename IsRange _ _ _ _ _ _ _ _ => hr2
    unfold Hold
    have N3 : News s.heap _ _ [(_, _)] := fun p hp => N2 p (List.mem_cons_of_mem _ (List.mem_cons_of_mem _ hp))
    clear N2
    refine iterRF (n := n) (Str.ofString "found") [Str.ofString "at", Str.ofString "sign"] (fun i b nx => readG ks i = some (KBw.bInts b) ∧ ∃ a oc vc, nx = [(a, oc)] ∧ oc.data = Data.cell vc) hr2 (small5 (by omega)) ((size5 _).trans (by omega)) rfl F2 N3 (by rfl) ⟨rfl, _, _, _, rfl, by assumption⟩ ?_ ?_
    · rintro i t b1 tb1 u nx h tk own hi ho hadr ⟨hb1, a, oc, vc, rfl, hdc⟩ F4 N4
      obtain rfl := List.cons.inj hadr |>.1
      simp only [List.cons_append, List.nil_append] at N4
      rw [locC] at F4 N4
      (repeat' (first | (k_unfold; (try dsimp only)) | walk1 | (k_unmd; k_unfold; (try dsimp only)) | (dsimp only; first | (k_unfold; (try dsimp only)) | walk1)))
      rename KBw.bInts (KBy.picked b _ _) = _ => hkP
      rw [grp_clip hn hi] at hkP
      have hgl := grp_length hn hi
      have hgs : ∀ k ∈ grp ks i, signsI.contains k = true := fun k hk' => good_sign hall (List.mem_of_mem_drop (List.mem_of_mem_take hk'))
      have hbig : ∀ a, num85 0 (grp ks i) = some a → 4294967296 ≤ a → readOf ks = none := fun a q q2 => by
        rw [eR, readG_none (i := i + 1) (n := n) (by simp only [readG, hb1, q]; rw [if_pos q2]) hi]; rfl
      rename Fr _ _ _ _ => F5
      rename News _ _ _ _ => N5
      rename Obj.data _ = Data.cell (some _) => hd5
      unfold Hold
      refine iterBK [Str.ofString "sign"] (fun j nx => ∃ oc tn a, nx = (_, oc) :: own ∧ oc.data = Data.cell (some (.int a tn)) ∧ num85 0 ((grp ks i).take j) = some a) hkP rfl F5 N5 ⟨_, _, _, rfl, hd5, rfl⟩ ?_ ?_
      · rintro j k t' u' nx h' tk' own' hj h0 h1 ho' hadr' ⟨oc', tn, av, rfl, hdc', hav⟩ F6 N6
        simp only [List.cons_append] at N6
        rw [locC] at F6 N6
        obtain ⟨ow, eow, how⟩ := own_two ho ho'
        rw [eow] at N6
        obtain ⟨ip, hip, hpl⟩ := place_at (hgs k (List.mem_of_getElem? hj))
        (repeat' (first | (k_unfold; (try dsimp only)) | walk1 | (k_unmd; k_unfold; (try dsimp only)) | (dsimp only; first | (k_unfold; (try dsimp only)) | walk1)))
        refine index_K (by kba_ints) h0 h1 hip fun t9 k9 => ?_
        (repeat' (first | (k_unfold; (try dsimp only)) | walk1 | (k_unmd; k_unfold; (try dsimp only)) | (dsimp only; first | (k_unfold; (try dsimp only)) | walk1)))
        subst eow
        have hst := num85_step hav hj (by omega)
        rw [hpl] at hst
        rename Obj.data _ = Data.cell (some (Value.int (av * 85 + _) _)) => hd7
        exact inv_endK (nx := (_, _) :: own) ⟨_, _, _, rfl, hd7, hst⟩ (by k_asm) (by k_asm) (fun p hp => (List.mem_cons.mp hp).elim (fun e => by rw [e]; exact List.mem_cons_self) fun hp => List.mem_cons_of_mem _ (List.mem_append_left _ hp)) (fun p hp => List.mem_cons_of_mem _ (List.mem_append_right _ hp)) (by rfl) (by ((intros; (try simp only [List.mem_cons, List.not_mem_nil, or_false, not_or] at *); first | rfl | simp_all)))
      · rintro u' nx h' tk' ⟨oc', tn, av, rfl, hdc', hav⟩ F6 N6
        rw [List.take_length] at hav
        rw [locC] at F6 N6
        have ha0 := num85_in _ _ _ (by decide) hav
        have e256 : (256 : Int) ^ Int.toNat 4 = 4294967296 := by decide
        (repeat' (first | (k_unfold; (try dsimp only)) | walk1 | (k_unmd; k_unfold; (try dsimp only)) | (dsimp only; first | (k_unfold; (try dsimp only)) | walk1)))
        · refine hN _ _ #[] _ ?_ (by decide) (Fr.keep (by k_asm)) (News.fresh (by k_asm) (by k_mem)) (News.get (by k_asm) (by k_mem)) _
          exact hbig av hav (by rw [← e256]; assumption)
        have hlt : av < 4294967296 := by
          have q : ¬ (256 : Int) ^ Int.toNat 4 ≤ av := by assumption
          rw [e256] at q
          omega
        unfold Hold
        (((refine compW (F₀ := by k_asm) (by with_unfolding_all rfl) (by decide) (by rfl) (by decide) (by rfl) ?_)))
        (repeat' (first | (k_unfold; (try dsimp only)) | walk1 | (k_unmd; k_unfold; (try dsimp only)) | (dsimp only; first | (k_unfold; (try dsimp only)) | walk1)))
        rename Fr _ _ _ _ => F7
        rename News _ _ _ _ => N7
        unfold Hold
        refine iterCTm (ns := [3, 2, 1, 0]) (fun k => (av.fdiv (256 ^ k.toNat)).fmod 256) (.cons _ _ (.cons _ _ (.cons _ _ (.cons _ _ .nil)))) rfl ⟨_, rfl⟩ (by show 4 ≤ _; decide) rfl F7 N7 List.mem_cons_self ?_ ?_
        · intro k t9 I oI C oC D m₂ ys h9 tk9 s₁ E' hk9 hC hx F N off ne hs1
          obtain ⟨g, rfl⟩ := hs1
          obtain ⟨hk0, hk1⟩ : 0 ≤ k ∧ k ≤ 3 := by
            simp only [List.mem_cons, List.not_mem_nil, or_false] at hk9
            omega
          clear hk9
          have hpw := (pw_facts hk0 (Int.le_trans hk1 (by decide))).2.1
          have hq0 := fmod_lo (av.fdiv (256 ^ k.toNat)) (n := 256) (by decide)
          have hq1 := fmod_hi (av.fdiv (256 ^ k.toNat)) (n := 256) (by decide)
          (repeat' (first | (k_unfold; (try dsimp only)) | walk1 | (k_unmd; k_unfold; (try dsimp only)) | (dsimp only; first | (k_unfold; (try dsimp only)) | walk1)))
          refine floordiv_int hpw.1 ?_ (Or.inl (PyProof.noPylong_of_log2 hpw.2))
          (repeat' (first | (k_unfold; (try dsimp only)) | walk1 | (k_unmd; k_unfold; (try dsimp only)) | (dsimp only; first | (k_unfold; (try dsimp only)) | walk1)))
          exact LCg.CompEnd.intro (by k_asm) (by k_asm) _ (fun p hp => hp) off List.mem_cons_self ⟨rfl, _, rfl⟩
        · intro D h9 tk9 ys hy F N
          (repeat' (first | (k_unfold; (try dsimp only)) | walk1 | (k_unmd; k_unfold; (try dsimp only)) | (dsimp only; first | (k_unfold; (try dsimp only)) | walk1)))
          rename KBa.In _ => hin
          have hrl := readG_length hb1
          have hb9 := KBa.ints_make hin
          have hki : KBw.bInts b1 = KBw.bInts b1 := rfl
          have hg5 : (List.map (fun k : Int => (av.fdiv (256 ^ k.toNat)).fmod 256) [3, 2, 1, 0]).length = 4 := rfl
          (repeat' (first | (k_unfold; (try dsimp only)) | walk1 | (k_unmd; k_unfold; (try dsimp only)) | (dsimp only; first | (k_unfold; (try dsimp only)) | walk1)))
          rename KBw.bInts (b1 ++ _) = _ => ka
          refine inv_endF (nx := [(_, oc')]) ⟨?_, _, _, _, rfl, hdc'⟩ (by k_asm) (by k_asm) (fun p hp => List.mem_cons_of_mem _ (List.mem_cons_of_mem _ (by rw [List.mem_singleton.mp hp]; exact List.mem_cons_self))) (fun p hp => List.mem_cons_of_mem _ (List.mem_cons_of_mem _ (List.mem_cons_of_mem _ hp))) (by rfl) (by rfl) (by ((intros; (try simp only [List.mem_cons, List.not_mem_nil, or_false, not_or] at *); first | rfl | simp_all)))
          simp only [readG, hb1, hav]
          rw [if_neg (by omega), ka, ← be4_list]
          rfl
    · rintro b1 tb1 u nx h tk ⟨hb1, a, oc, vc, rfl, hdc⟩ F4 N4
      rw [locC] at F4 N4
      have hl4 := readG_length hb1
      have hki : KBw.bInts b1 = KBw.bInts b1 := rfl
      (repeat' (first | (k_unfold; (try dsimp only)) | walk1 | (k_unmd; k_unfold; (try dsimp only)) | (dsimp only; first | (k_unfold; (try dsimp only)) | walk1)))
      rename KBw.bInts (KBy.picked b1 none _) = _ => hkP
      refine hS _ _ _ _ _ _ ?_ ?_ (Fr.keep (by k_asm)) (News.fresh (by k_asm) (by k_mem)) (News.get (by k_asm) (by k_mem)) _
      rotate_left
      · rename KBw.bInts (KBy.picked b1 (some _) _) = _ => hkR
        rw [hkR]
        simp only [List.length_take, List.length_drop, hl4]
        omega
      rw [eR, hb1, hkP]
      show some (List.take (manyOf (ks.getD 0 0)).toNat (KBw.bInts b1)) = _
      congr 1
      rw [hek, clipAt_nat]
      generalize (manyOf (ks.getD 0 0)).toNat = mm
      rcases Nat.le_total mm (KBw.bInts b1).length with q | q
      · rw [Nat.min_eq_left q]
      · rw [Nat.min_eq_right q, List.take_of_length_le q, List.take_of_length_le (Nat.le_refl _)]
end

section
variable {g h h' : Heap} {L : Addr} {m : Str → Option Value} {env : Env} {news : List (Addr × Obj)}
/-- after a call that keeps all but the frames' slots: the ground goes on as g' -/
theorem turned (K : Below A base outer g) (F : Fr g L h m) (N : News g L h news) (hf : env.frame = some L) (U : KeepsU (env :: outer) h h') :
    ∃ g', KtsTurn (frs outer) g g' ∧ Fr g' L h' m ∧ News g' L h' news ∧ Below A base outer g' := by
  obtain ⟨g₁, T₁, k₁⟩ := U
  have hmem : ∀ b, b ∈ frs (env :: outer) → b = L ∨ b ∈ frs outer := fun b hb => by
    rw [show frs (env :: outer) = L :: frs outer from by simp [frs, hf]] at hb
    exact List.mem_cons.mp hb
  have hup : h.UpToSlots h' := fun b o e _ => by
    obtain ⟨sl, q⟩ := T₁.up e
    exact ⟨sl, k₁ _ _ q⟩
  obtain ⟨T, S⟩ := kts_turn_at (h := h') (fs := frs outer) (g := g)
    (fun b hb => by
      obtain ⟨_, o, ho, _⟩ := K.frames.mem hb
      exact ⟨o, ho⟩)
    (fun b o e nm => k₁ _ _ (T₁.other b o (F.keep b o e) fun hm => by
      rcases hmem b hm with z | z
      · rw [z, kts_self F] at e
        cases e
      · exact nm z))
    (fun b o e _ => by
      obtain ⟨sl, q⟩ := T₁.up (F.keep b o e)
      exact ⟨sl, k₁ _ _ q⟩)
  refine ⟨_, T, ⟨hup.ns F.ns, S, by rw [T.size]; exact F.above⟩, fun p hp => ?_, ⟨K.stack, fun b o e => T.other b o (K.stays b o e) (fun hm => by
    rw [(K.frames.mem hm).1] at e
    cases e), K.frames.of_keeps fun b o e _ => ?_⟩⟩
  · obtain ⟨n1, n2, n3⟩ := N p hp
    refine ⟨k₁ _ _ (T₁.other _ _ n1 fun hm => ?_), n2, T.none_ _ n3⟩
    rcases hmem _ hm with z | z
    · exact n2 z
    · obtain ⟨_, o, ho, _⟩ := K.frames.mem z
      rw [n3] at ho
      cases ho
  · obtain ⟨sl, hs⟩ := T.up e
    exact ⟨_, hs, rfl⟩
end

section
variable {prog : Program} {A : Around} {E : Value → Shared → Prop} {s : Shared} {env : Env}
theorem wpS_Or2 {e₁ e₂ : Expr} {pos : Pos} {Q : Value → Shared → Prop}
    (h : wpAny (model prog w) A (eval e₁ env) (fun v s₁ => wpAny (model prog w) A (truthy v) (fun c s₂ => if c then Q v s₂ else wpS (model prog w) A (eval e₂ env) Q E s₂) E s₁) E s) :
    wpS (model prog w) A (eval (.BoolOp .Or [e₁, e₂] pos) env) Q E s := by
  show wpS _ A (do
    let v ← eval e₁ env
    standAt pos
    let c ← holding [v] (truthy v)
    match BoolOp.Or, c with
    | .And, false | .Or, true => pure v
    | _, _ => boolOp pos .Or (eval e₂ env :: evalEach [] env)) Q E s
  refine wpS_first (wpAny_mono h (fun v s₁ h₁ => wpS_first (wpAny_standAt (wpS_first (wpAny_holding (wpAny_mono h₁ (fun c s₂ h₂ => ?_) fun _ _ x => x))))) fun _ _ x => x)
  cases c
  · exact h₂
  · exact wpS_pure h₂
theorem wpS_Compare1 {l r : Expr} {op : CmpOp} {pos : Pos} {Q : Value → Shared → Prop}
    (h : wpS (model prog w) A (eval l env) (fun a s₁ => wpAny (model prog w) A (eval r env) (fun b s₂ => wpAny (model prog w) A (compareOp op a b) Q E s₂) E s₁) E s)
    (hm : behindInMarks op r = false := by with_unfolding_all rfl) :
    wpS (model prog w) A (eval (.Compare l [op] [r] pos) env) Q E s := by
  rw [eval_Compare1, markedBehindIn_of_false hm]
  refine wpS_bind (wpS_mono h (fun a s₁ h₁ => wpS_any ?_) fun _ _ x => x)
  exact wpAny_bind (wpAny_holding (wpAny_mono h₁ (fun b s₂ h₂ => wpAny_bind (wpAny_standAt (fun Γ p hΓ => by rw [Sem.wp_operate]; exact h₂ Γ p hΓ))) fun _ _ x => x))
end
theorem map_nats : ∀ l k : List UInt8, l.map (fun c => (c.toNat : Int)) = k.map (fun c => (c.toNat : Int)) → l = k
  | [], [], _ => rfl
  | [], _ :: _, h => nomatch h
  | _ :: _, [], h => nomatch h
  | a :: l, b :: k, h => by
    simp only [List.map_cons, List.cons.injEq] at h
    rw [map_nats l k h.2, (UInt8.toNat_inj.mp (by omega) : a = b)]
theorem bints_eq {b c : Array UInt8} (h : KBw.bInts b = KBw.bInts c) : b = c := by
  rcases b with ⟨l⟩
  rcases c with ⟨k⟩
  rw [KBw.ints_list, KBw.ints_list] at h
  rw [map_nats l k h]
section
variable {prog : Program} {w : World} {A : Around} {E : Value → Shared → Prop} {s : Shared} {env : Env} {g : Heap} {L : Addr}
/-- a statement gives two names what P tells -/
noncomputable def GivesTwo (g : Heap) (L : Addr) (m : Value → Value → Str → Option Value) (P : Value → Value → Prop) (s : Shared) (fl : Flow) (s₁ : Shared) : Prop :=
  fl = .next ∧ ∃ u v, P u v ∧ Fr g L s₁.heap (m u v) ∧ Onward s s₁
theorem joinTwo {st : Stmt} {rest : List Stmt} {Q : Flow → Shared → Prop} (m : Value → Value → Str → Option Value) (P : Value → Value → Prop)
    (h : wpAny (model prog w) A (exec st env) (GivesTwo g L m P s) E s)
    (hc : ∀ u v h tk, P u v → Fr g L h (m u v) → wpS (model prog w) A (execs rest env) Q E { s with heap := h, toks := tk }) :
    wpS (model prog w) A (execs (st :: rest) env) Q E s :=
  wpS_plain (wpAny_mono h (fun _ _ q => by obtain ⟨e1, u, v, e2, e3, h, tk, e5⟩ := q; subst e1; subst e5; exact hc u v h tk e2 e3) fun _ _ e => e)
end
/-- what a row tells, as a value -/
noncomputable def DueIs (ks : List Int) (u : Value) : Prop := (readOf ks = none ∧ u = .none) ∨ ∃ b1 t1, readOf ks = some (KBw.bInts b1) ∧ u = .bytes b1 t1
section
set_option pp.deepTerms false
set_option pp.maxSteps 1500
theorem c_isread (hh : A.handled = none) (B : Below A base outer s.heap) (XB : (hd.heap_39 w.params).In base) (TB : Top hd.view_39 LO mean mg mb base) (hdp : A.depth + 140 < recursionLimit) (hun : A.units + 420 < cLine)
    {b : Array UInt8} {ks : List Int} {t : Tok} (hb : KBw.bInts b = ks) (hk : ks.length ≤ 4096)
    (hQ : ∀ h', KeepsU outer s.heap h' → ∀ tk', Q (.bool true) { s with heap := h', toks := tk' }) :
    wpS (model PySem.Challenge.rw_pb0094_01.row.prog w) A (call (.ref 202) [.bytes b t]) Q E s := by
  have mark0 := @Mark.on "comp"
  have mark1 := @Mark.on "call"
  have mark2 := @Mark.on "bytes"
  have X := XB.keeps B.stays
  have T := TB.keeps B.stays
  ((
  (with_reducible rename Frag.In _ _ => mX0); revert mX0; k_fill; intro mX1
  (with_reducible rename Below _ _ _ _ => mB0); (with_reducible rename (Around.handled _ = none) => mh0); (with_reducible rename (Around.depth _ + _ < recursionLimit) => md0); (with_reducible rename (Around.units _ + _ < cLine) => mu0)
  first | refine m_open mh0 mB0 md0 mu0 ?_ | refine s_open mh0 mB0 md0 mu0 ?_
  clear mh0 mB0 md0 mu0
  intro zdp zun zgd mB1 md1 mu1))
  refine' enterS1 (Str.ofString "row") ?s1 ?s2 ?s3 ?s4 ?s5 ?s6 ?s7 ?s8 ?s9 ?s11 ?s12 ?s13 ?s14 ?_
  (((case s1 => k_asm); (case s2 => k_asm); (case s3 => k_asm); (case s4 => first | assumption | exact Led.refl _); (case s5 => k_is); (case s6 => k_is); (case s7 => walk_at "m_rd"); (case s8 => first | exact BindsTo.of_eq rfl | exact binds_K (by k_in) rfl (by k_is) rfl rfl rfl); (case s9 => first | exact rfl | exact locs rfl); (try (case s10 => first | exact rfl | decide +kernel)); (case s11 => exact rfl); (case s12 => exact rfl); (case s13 => exact rfl)))
  case s14 => decide
  intro L' h' tk' F' N'
  refine joinTwo (g := s.heap) (L := L') (fun u v y => if y = Str.ofString "rest" then some v else if y = Str.ofString "due" then some u else if y = Str.ofString "row" then some (.bytes b t) else none) (fun u v => DueIs ks u ∧ ∃ b2 t2, v = .bytes b2 t2 ∧ (KBw.bInts b2).length ≤ 60) ?_ ?_
  · (((try dsimp only); (try k_fold); (repeat' (first | (k_unfold; (try dsimp only)) | walk1 | (k_unmd; k_unfold; (try dsimp only)) | (dsimp only; first | (k_unfold; (try dsimp only)) | walk1)))))
    unfold Hold
    refine c_lawread w rfl (by walk_at "m_B") (by walk_at "m_X") (by walk_at "m_T") (by walk_at "m_rd") (by walk_at "m_ru") hb hk ?_ ?_
    · intro D h2 b2 t2 hr hl2 hkp hD0 hD tk2
      rename Fr _ _ _ _ => F1
      rename News _ _ _ _ => N1
      have F2 := F1.keptAll hkp
      have N2 := News.more F2 (News.nil (L := L')) hD (fun es n q => by cases q) (kts_none F1.keep hD0)
      clear F1 N1
      (((try dsimp only); (try k_fold); (repeat' (first | (k_unfold; (try dsimp only)) | walk1 | (k_unmd; k_unfold; (try dsimp only)) | (dsimp only; first | (k_unfold; (try dsimp only)) | walk1)))))
      exact ⟨rfl, _, _, ⟨.inl ⟨hr, rfl⟩, _, _, rfl, hl2⟩, by k_asm, _, _, rfl⟩
    · intro D h2 b1 t1 b2 t2 hr hl2 hkp hD0 hD tk2
      rename Fr _ _ _ _ => F1
      rename News _ _ _ _ => N1
      have F2 := F1.keptAll hkp
      have N2 := News.more F2 (News.nil (L := L')) hD (fun es n q => by cases q) (kts_none F1.keep hD0)
      clear F1 N1
      (((try dsimp only); (try k_fold); (repeat' (first | (k_unfold; (try dsimp only)) | walk1 | (k_unmd; k_unfold; (try dsimp only)) | (dsimp only; first | (k_unfold; (try dsimp only)) | walk1)))))
      exact ⟨rfl, _, _, ⟨.inr ⟨_, _, hr, rfl⟩, _, _, rfl, hl2⟩, by k_asm, _, _, rfl⟩
  · intro u v h2 tk2 ⟨hu, b2, t2, hv, hl2⟩ F2
    subst hv
    clear F' N'
    have N2 := News.nil (h₀ := s.heap) (L := L') (h := h2)
    have hb2 : KBw.bInts b2 = KBw.bInts b2 := rfl
    refine wpS_execs (wpS_return (wpS_Or2 _ ?_))
    (((try dsimp only); (try k_fold); (repeat' (first | (k_unfold; (try dsimp only)) | walk1 | (k_unmd; k_unfold; (try dsimp only)) | (dsimp only; first | (k_unfold; (try dsimp only)) | walk1)))))
    unfold Hold
    (((refine compWT (F₀ := by k_asm) (by with_unfolding_all rfl) (by decide) (by rfl) (by decide) (by rfl) ?_)))
    (repeat' (first | (k_unfold; (try dsimp only)) | walk1 | (k_unmd; k_unfold; (try dsimp only)) | (dsimp only; first | (k_unfold; (try dsimp only)) | walk1)))
    (rename Fr _ _ _ _ => F1); (rename News _ _ _ _ => N1)
    unfold Hold
    refine iterCBf (fun k => decide (k ≠ 0)) hb2 (by omega) rfl F1 N1 ?_ ?_
    · intro k t I oI C oC D m₂ ys h tk s₁ E' hk h0 h1 hC hx F N off ne hs1
      obtain ⟨g, rfl⟩ := hs1
      (repeat' (first | (k_unfold; (try dsimp only)) | walk1 | (k_unmd; k_unfold; (try dsimp only)) | (dsimp only; first | (k_unfold; (try dsimp only)) | walk1)))
      all_goals (have hk0 : k = 0 := by omega); simp [hk0]
    · intro D h tk ys hy F N
      (repeat' (first | (k_unfold; (try dsimp only)) | walk1 | (k_unmd; k_unfold; (try dsimp only)) | (dsimp only; first | (k_unfold; (try dsimp only)) | walk1)))
      · refine wpS_Compare1 _ (wpS_Call ?_)
        (((try dsimp only); (try k_fold); (repeat' (first | (k_unfold; (try dsimp only)) | walk1 | (k_unmd; k_unfold; (try dsimp only)) | (dsimp only; first | (k_unfold; (try dsimp only)) | walk1)))))
        refine wpS_callK (K := hd.heap_39 w.params) (by revert XB; k_fill; intro _; k_is) ?_ (by rfl) (by rfl)
        (((try dsimp only); (try k_fold); (repeat' (first | (k_unfold; (try dsimp only)) | walk1 | (k_unmd; k_unfold; (try dsimp only)) | (dsimp only; first | (k_unfold; (try dsimp only)) | walk1)))))
        refine c_hrow w rfl (by walk_at "m_B") XB TB (by walk_at "m_rd") (by walk_at "m_ru") hb hk ?_ ?_
        · intro b' t' h' hr hkp tk'
          (((with_reducible rename Fr _ _ _ _ => mF); (with_reducible rename News _ _ _ _ => mN); (with_reducible rename Keeps _ _ => mK); (have zF := Fr.keptAll mF mK); (have zN := News.grown mN mK); clear mN mF mK; (try dsimp only); (try k_fold)))
          rcases hu with ⟨hn, rfl⟩ | ⟨b1, t1, hs, rfl⟩
          · rw [hn] at hr; cases hr
          · rw [hr] at hs
            obtain rfl := bints_eq (Option.some.inj hs)
            (((try dsimp only); (try k_fold); (repeat' (first | (k_unfold; (try dsimp only)) | walk1 | (k_unmd; k_unfold; (try dsimp only)) | (dsimp only; first | (k_unfold; (try dsimp only)) | walk1)))))
            rw [beq_self_eq_true]
            exact hQ _ (KeepsU.of_keeps (Fr.keep (by k_asm))) _
        · intro h' hn hU tk'
          rename Fr _ _ _ _ => F1
          rename News _ _ _ _ => N1
          rename Below _ _ _ _ => B1
          obtain ⟨g', T', F2, N2, B2⟩ := turned B1 F1 N1 (by rfl) hU
          clear F1 N1
          rcases hu with ⟨_, rfl⟩ | ⟨b1, t1, hs, rfl⟩
          · (((try dsimp only); (try k_fold); (repeat' (first | (k_unfold; (try dsimp only)) | walk1 | (k_unmd; k_unfold; (try dsimp only)) | (dsimp only; first | (k_unfold; (try dsimp only)) | walk1)))))
            exact hQ _ ⟨g', T', Fr.keep (by k_asm)⟩ _
          · rw [hn] at hs; cases hs
      · rw [show decide (List.filter (fun k => decide (k ≠ 0)) (KBw.bInts b2) = []) = false from by assumption]
        exact hQ _ (KeepsU.of_keeps (Fr.keep (by k_asm))) _
end

/-- a deck: a dict of its cells and its mixed number -/
noncomputable def Deck (w : World) (C : Addr) (oD oC : Obj) : Prop :=
  ∃ (ws : List Value) (cs : List Int) (n : Nat) (mx : Int) (t : Tok), oC = PySem.W.listOf ws.toArray n ∧ IntsAre ws cs ∧ cs.length ≤ 63 ∧ 0 ≤ mx ∧ mx < 2147483647 ∧
    oD.IsDictOf (PySem.strKind PySem.Challenge.rw_pb0094_01.row.prog w) [(Str.ofString "cells", .ref C), (Str.ofString "mixed", .int mx t)]
theorem fold_in : ∀ (l : List Int) (a : Int), 0 ≤ a ∧ a < 1000003 → 0 ≤ List.foldl (fun a' n' => (a' * 31 + n').fmod 1000003) a l ∧ List.foldl (fun a' n' => (a' * 31 + n').fmod 1000003) a l < 1000003
  | [], _, h => h
  | n :: l, a, h => fold_in l _ ⟨fmod_lo _ (by decide), fmod_hi _ (by decide)⟩
section
set_option pp.deepTerms false
set_option pp.maxSteps 1500
theorem c_deck (hh : A.handled = none) (B : Below A base outer s.heap) (X : (hd.heap_39 w.params).In s.heap) (T : Top hd.view_39 LO mean mg mb s.heap) (hdp : A.depth + 20 < recursionLimit) (hun : A.units + 60 < cLine)
    {a : Addr} {vs : List Value} {ns : List Int} (hl : s.heap.IsList a vs.toArray) (hi : IntsAre vs ns) (hk : ns.length ≤ 63)
    (hQ : ∀ D C oD oC h' tk', Deck w C oD oC → @LT.lt Nat _ D C → (D == sysModules) = false → s.heap.get? D = none → s.heap.get? C = none → h'.get? D = some oD → h'.get? C = some oC → Keeps s.heap h' → Q (.ref D) { s with heap := h', toks := tk' }) :
    wpAny (model PySem.Challenge.rw_pb0094_01.row.prog w) A (call (.ref 161) [.ref a]) Q E s := by
  ((((
  (with_reducible rename Frag.In _ _ => mX0); revert mX0; k_fill; intro mX1
  (with_reducible rename Below _ _ _ _ => mB0); (with_reducible rename (Around.handled _ = none) => mh0); (with_reducible rename (Around.depth _ + _ < recursionLimit) => md0); (with_reducible rename (Around.units _ + _ < cLine) => mu0)
  first | refine m_open mh0 mB0 md0 mu0 ?_ | refine s_open mh0 mB0 md0 mu0 ?_
  clear mh0 mB0 md0 mu0
  intro zdp zun zgd mB1 md1 mu1)); (first
  | (refine' enterP ?s1x39x40 ?s2x39x40 ?s3x39x40 ?s4x39x40 ?s5x39x40 ?s6x39x40 ?s7x39x40 ?s8x39x40 ?s9x39x40 ?_ ?s11x39x40 ?s12x39x40 ?s13x39x40 ?s14x39x40; (((case s1x39x40 => k_asm); (case s2x39x40 => k_asm); (case s3x39x40 => k_asm); (case s4x39x40 => first | assumption | exact Led.refl _); (case s5x39x40 => k_is); (case s6x39x40 => k_is); (case s7x39x40 => walk_at "m_rd"); (case s8x39x40 => first | exact BindsTo.of_eq rfl | exact binds_K (by k_in) rfl (by k_is) rfl rfl rfl); (case s9x39x40 => first | exact rfl | exact locs rfl); (try (case s10x39x40 => first | exact rfl | decide +kernel)); (case s11x39x40 => exact rfl); (case s12x39x40 => exact rfl); (case s13x39x40 => exact rfl))); (case s14x39x40 => decide); k_whole; intro zL zh zF zN; (try dsimp only); (try k_fold))
  | (refine' enterC ?s1x39x40 ?s2x39x40 ?s3x39x40 ?s4x39x40 ?s5x39x40 ?s6x39x40 ?s7x39x40 ?s8x39x40 ?s9x39x40 ?s10x39x40 ?_ ?s11x39x40 ?s12x39x40 ?s13x39x40; (((case s1x39x40 => k_asm); (case s2x39x40 => k_asm); (case s3x39x40 => k_asm); (case s4x39x40 => first | assumption | exact Led.refl _); (case s5x39x40 => k_is); (case s6x39x40 => k_is); (case s7x39x40 => walk_at "m_rd"); (case s8x39x40 => first | exact BindsTo.of_eq rfl | exact binds_K (by k_in) rfl (by k_is) rfl rfl rfl); (case s9x39x40 => first | exact rfl | exact locs rfl); (try (case s10x39x40 => first | exact rfl | decide +kernel)); (case s11x39x40 => exact rfl); (case s12x39x40 => exact rfl); (case s13x39x40 => exact rfl))); k_whole; intro zL zh ztk zcells zF zN zY zl; (try k_lt zl); k_cells zY; (try simp only [List.cons_append, List.nil_append] at zN); (try dsimp only); (try k_fold)))))
  (repeat' (first | (k_unfold; (try dsimp only)) | walk1 | (k_unmd; k_unfold; (try dsimp only)) | (dsimp only; first | (k_unfold; (try dsimp only)) | walk1)))
  rename News _ _ _ [(_, PySem.W.listOf _ _), (_, _), _, _, _] => N1
  rename Obj.IsDictOf _ _ _ => hd1
  rename IntsAre _ (List.reverse _) => hi1
  refine hQ _ _ _ _ _ _ ⟨_, _, _, _, _, rfl, hi1, ?_, ?_, ?_, hd1⟩ (by omega) (by assumption) (News.fresh N1 (by k_mem)) (News.fresh N1 (by k_mem)) (News.get N1 (by k_mem)) (News.get N1 (by k_mem)) (Fr.keep (by k_asm))
  · simp only [List.length_reverse, List.length_map, List.length_take]; omega
  · exact (fold_in _ 11 (by decide)).1
  · have := (fold_in (List.map (fun k' => k'.fmod 1000000007) (List.take 40 ns)) 11 (by decide)).2; omega
end
theorem upd_mem {d : Addr} {o : Obj} {news : List (Addr × Obj)} {f : Obj → List (Addr × Obj)} (U : UpdF d o news f) {o' : Obj} {p : Addr × Obj} (h : p ∈ f o') : p = (d, o') ∨ (p ∈ news ∧ p.1 ≠ d) := by
  obtain ⟨pre, post, rfl, hg, a, b⟩ := U.split
  rw [hg] at h
  rcases List.mem_append.mp h with h | h
  · exact .inr ⟨List.mem_append_left _ h, a _ h⟩
  · rcases List.mem_cons.mp h with h | h
    · exact .inl h
    · exact .inr ⟨List.mem_append_right _ (List.mem_cons_of_mem _ h), b _ h⟩
theorem upd_in {d : Addr} {o : Obj} {news : List (Addr × Obj)} {f : Obj → List (Addr × Obj)} (U : UpdF d o news f) : (d, o) ∈ news := by
  obtain ⟨pre, post, rfl, _, _, _⟩ := U.split
  exact List.mem_append_right _ (.head _)
/-- all but D and C is kept -/
noncomputable def But2 (D C : Addr) (h h' : Heap) : Prop := ∀ b o, b ≠ D → b ≠ C → h.get? b = some o → h'.get? b = some o
section
variable {g h h' : Heap} {L D C : Addr} {m : Str → Option Value} {news : List (Addr × Obj)} {oD oC oD' oC' : Obj} {f1 f2 : Obj → List (Addr × Obj)}
theorem drawn_F (F : Fr g L h m) (N : News g L h news) (hD : (D, oD) ∈ news) (hC : (C, oC) ∈ news) (k : But2 D C h h') : Fr g L h' m :=
  ⟨F.ns.at' fun o e => k _ _ (Ne.symm (N _ hD).2.1) (Ne.symm (N _ hC).2.1) e, fun b o e => k _ _ (fun q => by rw [q, (N _ hD).2.2] at e; cases e) (fun q => by rw [q, (N _ hC).2.2] at e; cases e) (F.keep b o e), F.above⟩
theorem drawn_N (N : News g L h news) (U1 : UpdF D oD news f1) (U2 : UpdF C oC (f1 oD') f2) (hC : (C, oC) ∈ news) (k : But2 D C h h') (e1 : h'.get? D = some oD') (e2 : h'.get? C = some oC') : News g L h' (f2 oC') := fun p hp => by
  have hD := upd_in U1
  rcases upd_mem U2 hp with rfl | ⟨hp, hne⟩
  · exact ⟨e2, (N _ hC).2⟩
  · rcases upd_mem U1 hp with rfl | ⟨hp, hne2⟩
    · exact ⟨e1, (N _ hD).2⟩
    · exact ⟨k _ _ hne2 hne (N _ hp).1, (N _ hp).2⟩
end
section
set_option pp.deepTerms false
set_option pp.maxSteps 1500
theorem c_draw {g : Heap} {D C : Addr} {oD oC : Obj} (hh : A.handled = none) (B : Below A base outer g) (X : (hd.heap_39 w.params).In g) (T : Top hd.view_39 LO mean mg mb g) (hdp : A.depth + 40 < recursionLimit) (hun : A.units + 160 < cLine)
    (G : Led g s.heap [(D, oD), (C, oC)]) (dk : Deck w C oD oC) (hlt : @LT.lt Nat _ D C) (hlo : (D == sysModules) = false) {many : Int} {t : Tok} (h0 : 0 < many) (h1 : many ≤ 99999)
    (hrest : ∀ b o, b ≠ D → b ≠ C → s.heap.get? b = some o → g.get? b = some o)
    (hQ : ∀ v tv oD' oC' h' tk', 0 ≤ v → v < many → Deck w C oD' oC' → But2 D C s.heap h' → h'.get? D = some oD' → h'.get? C = some oC' → Q (.int v tv) { s with heap := h', toks := tk' }) :
    wpAny (model PySem.Challenge.rw_pb0094_01.row.prog w) A (call (.ref 168) [.ref D, .int many t]) Q E s := by
  obtain ⟨ws, cs, n, mx, tm, rfl, hi, hk, hm0, hm1, hd⟩ := dk
  have hws := hi.length
  ((((
  (with_reducible rename Frag.In _ _ => mX0); revert mX0; k_fill; intro mX1
  (with_reducible rename Below _ _ _ _ => mB0); (with_reducible rename (Around.handled _ = none) => mh0); (with_reducible rename (Around.depth _ + _ < recursionLimit) => md0); (with_reducible rename (Around.units _ + _ < cLine) => mu0)
  first | refine m_open mh0 mB0 md0 mu0 ?_ | refine s_open mh0 mB0 md0 mu0 ?_
  clear mh0 mB0 md0 mu0
  intro zdp zun zgd mB1 md1 mu1)); (first
  | (refine' enterP ?s1x41x42 ?s2x41x42 ?s3x41x42 ?s4x41x42 ?s5x41x42 ?s6x41x42 ?s7x41x42 ?s8x41x42 ?s9x41x42 ?_ ?s11x41x42 ?s12x41x42 ?s13x41x42 ?s14x41x42; (((case s1x41x42 => k_asm); (case s2x41x42 => k_asm); (case s3x41x42 => k_asm); (case s4x41x42 => first | assumption | exact Led.refl _); (case s5x41x42 => k_is); (case s6x41x42 => k_is); (case s7x41x42 => walk_at "m_rd"); (case s8x41x42 => first | exact BindsTo.of_eq rfl | exact binds_K (by k_in) rfl (by k_is) rfl rfl rfl); (case s9x41x42 => first | exact rfl | exact locs rfl); (try (case s10x41x42 => first | exact rfl | decide +kernel)); (case s11x41x42 => exact rfl); (case s12x41x42 => exact rfl); (case s13x41x42 => exact rfl))); (case s14x41x42 => decide); k_whole; intro zL zh zF zN; (try dsimp only); (try k_fold))
  | (refine' enterC ?s1x41x42 ?s2x41x42 ?s3x41x42 ?s4x41x42 ?s5x41x42 ?s6x41x42 ?s7x41x42 ?s8x41x42 ?s9x41x42 ?s10x41x42 ?_ ?s11x41x42 ?s12x41x42 ?s13x41x42; (((case s1x41x42 => k_asm); (case s2x41x42 => k_asm); (case s3x41x42 => k_asm); (case s4x41x42 => first | assumption | exact Led.refl _); (case s5x41x42 => k_is); (case s6x41x42 => k_is); (case s7x41x42 => walk_at "m_rd"); (case s8x41x42 => first | exact BindsTo.of_eq rfl | exact binds_K (by k_in) rfl (by k_is) rfl rfl rfl); (case s9x41x42 => first | exact rfl | exact locs rfl); (try (case s10x41x42 => first | exact rfl | decide +kernel)); (case s11x41x42 => exact rfl); (case s12x41x42 => exact rfl); (case s13x41x42 => exact rfl))); k_whole; intro zL zh ztk zcells zF zN zY zl; (try k_lt zl); k_cells zY; (try simp only [List.cons_append, List.nil_append] at zN); (try dsimp only); (try k_fold)))))
  (repeat' (first | (k_unfold; (try dsimp only)) | walk1 | (k_unmd; k_unfold; (try dsimp only)) | (dsimp only; first | (k_unfold; (try dsimp only)) | walk1)))
  · rename News _ _ _ [_, (_, _), (_, _)] => N1
    rename Fr _ _ _ _ => F1
    rename Obj.IsDictOf _ _ _ => hd1
    refine hQ _ _ _ _ _ _ (fmod_lo _ h0) (fmod_hi _ h0) ⟨ws, cs, n, _, _, rfl, hi, hk, fmod_lo _ (by decide), fmod_hi _ (by decide), hd1⟩ (fun b o e1 e2 e3 => F1.keep b o (hrest b o e1 e2 e3)) (N1.get (by k_mem)) (N1.get (by k_mem))
  · have hne : cs ≠ [] := of_decide_eq_false (by assumption)
    have hpos : 0 < ws.length := by rw [hws]; exact List.length_pos_iff.mpr hne
    (repeat' (first | (k_unfold; (try dsimp only)) | walk1 | (k_unmd; k_unfold; (try dsimp only)) | (dsimp only; first | (k_unfold; (try dsimp only)) | walk1)))
    rename News _ _ _ [_, (_, _), (_, _)] => N1
    rename Fr _ _ _ _ => F1
    rename IntsAre (List.dropLast _) _ => hi1
    exact hQ _ _ _ _ _ _ (fmod_lo _ h0) (fmod_hi _ h0) ⟨_, _, _, mx, tm, rfl, hi1, by rw [List.length_dropLast]; omega, hm0, hm1, hd⟩ (fun b o e1 e2 e3 => F1.keep b o (hrest b o e1 e2 e3)) (N1.get (by k_mem)) (N1.get (by k_mem))
end
theorem draw_ground {A₀ : Around} {g h : Heap} {L D C : Addr} {m : Str → Option Value} {news : List (Addr × Obj)} {oD oC : Obj} {env : Env} (B : Below A₀ base outer g) (F : Fr g L h m) (N : News g L h news) (hD : (D, oD) ∈ news) (hC : (C, oC) ∈ news) (hf : env.frame = some L) (hk : env.scope.kind = .function) :
    Below (A₀.deeper env) base (env :: outer) (hideAll h [D, C]) ∧ Led (hideAll h [D, C]) h [(D, oD), (C, oC)] ∧ Keeps g (hideAll h [D, C]) ∧ ∀ b o, b ≠ D → b ≠ C → h.get? b = some o → (hideAll h [D, C]).get? b = some o := by
  have B' := pushX B F hf hk
  have key : ∀ b o, b ≠ D → b ≠ C → h.get? b = some o → (hideAll h [D, C]).get? b = some o := fun b o e1 e2 e3 => hideAll_get _ e3 (by
    intro q
    rcases List.mem_cons.mp q with q | q
    · exact e1 q
    · exact e2 (List.mem_singleton.mp q))
  have hg : Keeps g (hideAll h [D, C]) := fun b o e => key b o (fun q => by rw [q, (N _ hD).2.2] at e; cases e) (fun q => by rw [q, (N _ hC).2.2] at e; cases e) (F.keep b o e)
  refine ⟨⟨B'.stack, fun b o e => hg b o (B.stays b o e), funFrames_hideAll B'.frames fun ev hev x hx hfr => ?_⟩, ⟨fun b o e => of_hideAll _ e, Nat.le_of_eq (hideAll_size _ _), fun p hp => ?_⟩, hg, key⟩
  · have hxn : g.get? x = none ∧ x ≠ L := by
      rcases List.mem_cons.mp hx with rfl | hx
      · exact ⟨(N _ hD).2.2, (N _ hD).2.1⟩
      · rw [List.mem_singleton.mp hx]; exact ⟨(N _ hC).2.2, (N _ hC).2.1⟩
    rcases List.mem_cons.mp hev with rfl | hev
    · rw [hf] at hfr; exact hxn.2 (Option.some.inj hfr).symm
    · obtain ⟨L₁, o₁, hf₁, ho₁⟩ := funFrames_in B.frames ev hev
      rw [hf₁] at hfr
      rw [Option.some.inj hfr, hxn.1] at ho₁
      cases ho₁
  · rcases List.mem_cons.mp hp with rfl | hp
    · exact ⟨(N _ hD).1, hideAll_none _ (.head _)⟩
    · rw [List.mem_singleton.mp hp]
      exact ⟨(N _ hC).1, hideAll_none _ (.tail _ (.head _))⟩
/-- a draw, as its caller sees it -/
theorem c_drawK {A₀ : Around} {env : Env} {g : Heap} {L D C : Addr} {m : Str → Option Value} {news : List (Addr × Obj)} {oD oC : Obj} {f1 : Obj → List (Addr × Obj)} {f2 : Obj → Obj → List (Addr × Obj)} {many : Int} {t : Tok}
    (B : Below A₀ base outer g) (X : (hd.heap_39 w.params).In g) (T : Top hd.view_39 LO mean mg mb g) (F : Fr g L s.heap m) (N : News g L s.heap news) (U1 : UpdF D oD news f1) (U2 : ∀ oD', UpdF C oC (f1 oD') (f2 oD')) (hC : (C, oC) ∈ news)
    (dk : Deck w C oD oC) (hlt : @LT.lt Nat _ D C) (hlo : (D == sysModules) = false) (hh : (A₀.deeper env).handled = none) (hdp : (A₀.deeper env).depth + 40 < recursionLimit) (hun : (A₀.deeper env).units + 160 < cLine) (hf : env.frame = some L) (hk : env.scope.kind = .function)
    (h0 : 0 < many) (h1 : many ≤ 99999)
    (hQ : ∀ v tv oD' oC' h' tk', 0 ≤ v → v < many → Deck w C oD' oC' → Fr g L h' m → News g L h' (f2 oD' oC') → Q (.int v tv) { s with heap := h', toks := tk' }) :
    wpAny (model PySem.Challenge.rw_pb0094_01.row.prog w) (A₀.deeper env) (call (.ref 168) [.ref D, .int many t]) Q E s := by
  have hD := upd_in U1
  obtain ⟨B', G, kp, hr⟩ := draw_ground B F N hD hC hf hk
  refine c_draw w hh B' (X.keeps kp) (T.keeps kp) hdp hun G dk hlt hlo h0 h1 hr fun v tv oD' oC' h' tk' q1 q2 q3 q4 q5 q6 => ?_
  exact hQ v tv oD' oC' h' tk' q1 q2 q3 (drawn_F F N hD hC q4) (drawn_N N U1 (U2 oD') hC q4 q5 q6)
local macro_rules
  | `(tactic| walk_at "m_ne") => `(tactic| first | assumption | (refine Ne.symm ?_; assumption) | k_ne)
  | `(tactic| walk_at "m_all") => `(tactic| first | exact List.forall_mem_nil _ | (refine' List.forall_mem_cons.mpr ⟨?a, ?b⟩; (case a => walk_at "m_ne"); (case b => walk_at "m_all")))
  | `(tactic| walk_at "m_updF") => `(tactic| first | (refine' UpdF.head ?a; (case a => walk_at "m_all")) | (refine' UpdF.tail ?a ?b; (case a => walk_at "m_ne"); (case b => walk_at "m_updF")))
  | `(tactic| walk_at "call ref") => `(tactic| (k_here; k_dflt (refine' c_drawK _ ?kB ?kX ?kT ?kF ?kN ?kU1 ?kU2 ?kC ?kdk ?klt ?klo ?kh ?kd ?ku ?kf ?kk ?k0 ?k1 ?_; (case kB => k_asm); (case kX => k_asm); (case kT => k_asm); (case kF => k_asm); (case kN => k_asm); (case kdk => assumption); (case klt => assumption); (case klo => assumption); (case kh => rfl); (case kf => rfl); (case kk => rfl); (case kd => walk_at "m_rd"); (case ku => walk_at "m_ru"); (case kU1 => walk_at "m_updF"); (case kU2 => (intro o'; walk_at "m_updF")); (case kC => k_mem); (case k0 => omega); (case k1 => omega)); (rename Deck _ _ _ _ => mdk0); clear mdk0; intro v' tv' oD' oC' h' tk' hv0' hv1' dk' F' N'; (try dsimp only [List.nil_append, List.cons_append] at N'); (try dsimp only); (try k_fold)))

/-- the figures of a number, as the codes of their signs -/
noncomputable def digs (k : Nat) : List Int := (Nat.toDigits 10 k).map fun c => (c.toNat : Int)
theorem digs_lt {k : Nat} (h : k < 10) : digs k = [48 + (k : Int)] := by
  unfold digs
  rw [Nat.toDigits_of_lt_base h]
  simp only [List.map_cons, List.map_nil, Nat.toNat_digitChar_of_lt_ten h]
  rfl
theorem digs_ge {k : Nat} (h : 10 ≤ k) : digs k = digs (k / 10) ++ [48 + ((k % 10 : Nat) : Int)] := by
  unfold digs
  rw [Nat.toDigits_of_base_le (by decide) h]
  simp only [List.map_append, List.map_cons, List.map_nil, Nat.toNat_digitChar_of_lt_ten (Nat.mod_lt k (by decide))]
  rfl
theorem digs_num (k : Nat) : numGo 10 0 (digs k) = some (k : Int) := by
  induction k using Nat.strongRecOn with
  | ind k ih =>
    rcases Nat.lt_or_ge k 10 with h | h
    · rw [digs_lt h]
      simp only [numGo]
      rw [if_pos (by omega)]
      congr 1; omega
    · rw [digs_ge h, numGo_append, ih (k / 10) (by omega)]
      simp only [Option.bind_some, numGo]
      rw [if_pos (by omega)]
      congr 1; omega
theorem digs_in (k : Nat) : ∀ d ∈ digs k, 48 ≤ d ∧ d ≤ 57 := by
  induction k using Nat.strongRecOn with
  | ind k ih =>
    rcases Nat.lt_or_ge k 10 with h | h
    · rw [digs_lt h]
      intro d hd
      rw [List.mem_singleton.mp hd]; omega
    · rw [digs_ge h]
      intro d hd
      rcases List.mem_append.mp hd with hd | hd
      · exact ih _ (by omega) d hd
      · rw [List.mem_singleton.mp hd]; omega
theorem digs_ne (k : Nat) : digs k ≠ [] := by
  unfold digs
  rw [Ne, List.map_eq_nil_iff]
  exact Nat.toDigits_ne_nil
theorem digs_head {k : Nat} (h : 0 < k) : (digs k).getD 0 0 ≠ 48 := by
  induction k using Nat.strongRecOn with
  | ind k ih =>
    rcases Nat.lt_or_ge k 10 with h9 | h9
    · rw [digs_lt h9]
      show 48 + (k : Int) ≠ 48
      omega
    · rw [digs_ge h9]
      have e := ih (k / 10) (by omega) (by omega)
      have hn := digs_ne (k / 10)
      cases hd : digs (k / 10) with
      | nil => exact absurd hd hn
      | cons x r => rw [hd] at e; exact e
theorem digs_length {k : Nat} (h : k < 100000) : (digs k).length ≤ 5 := by
  unfold digs
  rw [List.length_map]
  exact (Nat.length_toDigits_le_iff (b := 10) (by decide) (by decide)).mpr h
theorem digs_by (k : Nat) : numBy 10 (digs k) = some (k : Int) := by
  unfold numBy
  rw [if_neg (digs_ne k), digs_num]
theorem digs_of (k : Nat) : numOf (digs k) = some (k : Int) := by
  unfold numOf
  rw [if_neg ?_, digs_by]
  rintro ⟨h1, h2⟩
  rcases Nat.eq_zero_or_pos k with rfl | hk
  · rw [digs_lt (by decide)] at h1
    exact absurd h1 (by decide)
  · exact digs_head hk h2
/-- what str tells of a number that is not below nought -/
theorem str_cps {n : Int} (h : 0 ≤ n) : (Str.ofString (toString n)).cps.toList.map (fun (c : Nat) => (c : Int)) = digs n.toNat := by
  obtain ⟨k, rfl⟩ := Int.eq_ofNat_of_zero_le h
  rw [Str.ofString_eq_toList, Int.toString_eq_repr]
  show List.map (fun (c : Nat) => (c : Int)) ((Nat.repr k).toList.map Char.toNat) = _
  rw [Nat.toList_repr, List.map_map]
  rfl

section
variable {prog : Program} {w : World} {A : Around} {E : Value → Shared → Prop} {s : Shared} {h₀ : Heap} {L : Addr} {m : Str → Option Value} {env : Env} {elt ct : Expr} {x : Str} {scope : Scope} {cl : List (Str × Addr)}
theorem overS {y : Str} {ty : Tok} (hz : y.cps.size ≤ 16777216) (hh : A.handled = none) (F : Fr h₀ L s.heap m) :
    Over prog w A h₀ L (fun _ => True) (fun i v => ∃ (c : Nat) (t : Tok), y.cps[i]? = some c ∧ v = .str ⟨#[c]⟩ t) y.cps.size s.heap.objs.size { s with heap := s.heap.push { cls := .type "str_ascii_iterator", data := .fields #[.str y ty, .int 0 0] } } := by
  have W := Walks.strAscii (prog := prog) (w := w) hh s.heap.objs.size y ty
  refine ⟨⟨[s.heap.objs.size], _, W, fun i h st => ?_, fun i h h' o nw st e1 e2 _ _ _ => ?_, ⟨_, Heap.get?_push_size _ rfl, rfl, rfl⟩, fun b hb => ?_⟩, by rw [sizeLine_eq]; exact hz, Nat.ne_of_lt F.ns.lt, next_is_new F⟩
  · obtain ⟨o, ho, _⟩ := st; exact ⟨o, ho⟩
  · obtain ⟨o', ho', r⟩ := st
    rw [e1] at ho'; cases ho'
    exact ⟨o, e2, r⟩
  · rw [List.mem_singleton.mp hb]
    show s.heap.objs.size < (s.heap.push _).objs.size
    rw [Heap.size_push]; exact Nat.lt_succ_self _
/-- a comprehension over a text, whose elements are the codes of its signs -/
theorem iterCSm {y : Str} {ty : Tok} {Q : Value → Shared → Prop} {news : List (Addr × Obj)} (ha : y.cps.all (· < 128) = true) (hz : y.cps.size ≤ 16777216) (hh : A.handled = none) (F : Fr h₀ L s.heap m) (N : News h₀ L s.heap news)
    (turn : ∀ (c : Nat) t I oI C oC D m₂ ys h tk s₁ (E' : Value → Shared → Prop), LCg.NsObj oC m₂ → m₂ x = some (.str ⟨#[c]⟩ t) → Fr h₀ L h m → News h₀ L h ((I, oI) :: (C, oC) :: (D, LCg.lst ys) :: news) → LCg.Off3 I C D news → ((@Ne Nat I C) ∧ (@Ne Nat I D) ∧ (@Ne Nat C D)) → (∃ g, s₁ = { s with heap := g }) →
      wpAny (model prog w) A (eval elt (compEnvC scope cl C env)) (LCg.CompEnd h₀ L m { s₁ with heap := h, toks := tk } I oI C oC D (LCg.lst ys) (fun _ => True) (fun v news' => news' = news ∧ ∃ t, v = .int c t)) E' { s₁ with heap := h, toks := tk })
    (fin : ∀ D h tk ys, IntsAre ys (y.cps.toList.map fun (c : Nat) => (c : Int)) → Fr h₀ L h m → News h₀ L h ((D, LCg.lst ys) :: news) → Q (.ref D) { s with heap := h, toks := tk }) :
    wpAny (model prog w) A (pyIter (.str y ty)) (CompAt prog w A h₀ L m env elt x scope cl Q) E s := by
  refine wpAny_pyIter_ascii ha ⟨_, _, _, _, news, rfl, overS hz hh F, F.push _, fun p hp => ⟨Heap.get?_push_of_some _ (N p hp).1, (N p hp).2⟩, fun p hp => Nat.ne_of_lt (Heap.lt_size (N p hp).1), trivial, ?_⟩
  refine restJ (fun i ys nw => nw = news ∧ IntsAre ys ((y.cps.toList.take i).map fun (c : Nat) => (c : Int))) ?_ ?_ ⟨rfl, .nil⟩
  · rintro i ys nw v I oI C oC D m₂ h tk E' hi ⟨c, t, hg, rfl⟩ ⟨rfl, hy⟩ hC hx F N off ne
    refine wpAny_mono (turn c t I oI C oC D m₂ ys h tk _ E' hC hx F N off ne ⟨_, rfl⟩) (fun v s₃ hr => ?_) fun _ _ e => e
    obtain ⟨h', tk', nw', e, F', N', off', hS, rfl, t', rfl⟩ := hr
    refine ⟨h', tk', _, e, F', N', off', hS, rfl, ?_⟩
    have hg' : y.cps.toList[i]? = some c := by rw [Array.getElem?_toList]; exact hg
    rw [List.take_add_one, hg']
    simpa using IntsAre.append hy (.cons (c : Int) t' .nil)
  · rintro ys nw ⟨rfl, hy⟩ D h tk F' N' _
    rw [← Array.length_toList, List.take_length] at hy
    exact fin D h tk ys hy F' N'
end
theorem digs_ascii {n : Int} (h : 0 ≤ n) : (Str.ofString (toString n)).cps.all (· < 128) = true := by
  rw [← Array.all_toList, List.all_eq_true]
  intro c hc
  have hd := digs_in n.toNat (c : Int) (by rw [← str_cps h]; exact List.mem_map_of_mem hc)
  simp only [decide_eq_true_eq]
  omega
theorem digs_size {n : Int} (h : 0 ≤ n) : (Str.ofString (toString n)).cps.size = (digs n.toNat).length := by
  rw [← str_cps h, List.length_map, Array.length_toList]
section
set_option pp.deepTerms false
set_option pp.maxSteps 1500
theorem c_figures (hh : A.handled = none) (B : Below A base outer s.heap) (X : (hd.heap_39 w.params).In s.heap) (T : Top hd.view_39 LO mean mg mb s.heap) (hdp : A.depth + 40 < recursionLimit) (hun : A.units + 160 < cLine)
    {n : Int} {t : Tok} (h0 : 0 ≤ n) (h1 : n < 100000)
    (hQ : ∀ b t' h' tk', KBw.bInts b = digs n.toNat → Keeps s.heap h' → Q (.bytes b t') { s with heap := h', toks := tk' }) :
    wpAny (model PySem.Challenge.rw_pb0094_01.row.prog w) A (call (.ref 207) [.int n t]) Q E s := by
  have mark0 := @Mark.on "comp"
  have mark1 := @Mark.on "str"
  ((((
  (with_reducible rename Frag.In _ _ => mX0); revert mX0; k_fill; intro mX1
  (with_reducible rename Below _ _ _ _ => mB0); (with_reducible rename (Around.handled _ = none) => mh0); (with_reducible rename (Around.depth _ + _ < recursionLimit) => md0); (with_reducible rename (Around.units _ + _ < cLine) => mu0)
  first | refine m_open mh0 mB0 md0 mu0 ?_ | refine s_open mh0 mB0 md0 mu0 ?_
  clear mh0 mB0 md0 mu0
  intro zdp zun zgd mB1 md1 mu1)); (first
  | (refine' enterP ?s1x43x44 ?s2x43x44 ?s3x43x44 ?s4x43x44 ?s5x43x44 ?s6x43x44 ?s7x43x44 ?s8x43x44 ?s9x43x44 ?_ ?s11x43x44 ?s12x43x44 ?s13x43x44 ?s14x43x44; (((case s1x43x44 => k_asm); (case s2x43x44 => k_asm); (case s3x43x44 => k_asm); (case s4x43x44 => first | assumption | exact Led.refl _); (case s5x43x44 => k_is); (case s6x43x44 => k_is); (case s7x43x44 => walk_at "m_rd"); (case s8x43x44 => first | exact BindsTo.of_eq rfl | exact binds_K (by k_in) rfl (by k_is) rfl rfl rfl); (case s9x43x44 => first | exact rfl | exact locs rfl); (try (case s10x43x44 => first | exact rfl | decide +kernel)); (case s11x43x44 => exact rfl); (case s12x43x44 => exact rfl); (case s13x43x44 => exact rfl))); (case s14x43x44 => decide); k_whole; intro zL zh zF zN; (try dsimp only); (try k_fold))
  | (refine' enterC ?s1x43x44 ?s2x43x44 ?s3x43x44 ?s4x43x44 ?s5x43x44 ?s6x43x44 ?s7x43x44 ?s8x43x44 ?s9x43x44 ?s10x43x44 ?_ ?s11x43x44 ?s12x43x44 ?s13x43x44; (((case s1x43x44 => k_asm); (case s2x43x44 => k_asm); (case s3x43x44 => k_asm); (case s4x43x44 => first | assumption | exact Led.refl _); (case s5x43x44 => k_is); (case s6x43x44 => k_is); (case s7x43x44 => walk_at "m_rd"); (case s8x43x44 => first | exact BindsTo.of_eq rfl | exact binds_K (by k_in) rfl (by k_is) rfl rfl rfl); (case s9x43x44 => first | exact rfl | exact locs rfl); (try (case s10x43x44 => first | exact rfl | decide +kernel)); (case s11x43x44 => exact rfl); (case s12x43x44 => exact rfl); (case s13x43x44 => exact rfl))); k_whole; intro zL zh ztk zcells zF zN zY zl; (try k_lt zl); k_cells zY; (try simp only [List.cons_append, List.nil_append] at zN); (try dsimp only); (try k_fold)))))
  (repeat' (first | (k_unfold; (try dsimp only)) | walk1 | (k_unmd; k_unfold; (try dsimp only)) | (dsimp only; first | (k_unfold; (try dsimp only)) | walk1)))
  unfold Hold
  (((refine compW (F₀ := by k_asm) (by with_unfolding_all rfl) (by decide) (by rfl) (by decide) (by rfl) ?_)))
  (repeat' (first | (k_unfold; (try dsimp only)) | walk1 | (k_unmd; k_unfold; (try dsimp only)) | (dsimp only; first | (k_unfold; (try dsimp only)) | walk1)))
  (rename Fr _ _ _ _ => F1); (rename News _ _ _ _ => N1)
  unfold Hold
  have hl := digs_length (k := n.toNat) (by omega)
  refine iterCSm (digs_ascii h0) (by rw [digs_size h0]; omega) rfl F1 N1 ?_ ?_
  · intro c t I oI C oC D m₂ ys h tk s₁ E' hC hx F N off ne hs1
    obtain ⟨g, rfl⟩ := hs1
    (repeat' (first | (k_unfold; (try dsimp only)) | walk1 | (k_unmd; k_unfold; (try dsimp only)) | (dsimp only; first | (k_unfold; (try dsimp only)) | walk1)))
  · intro D h tk ys hy F N
    rw [str_cps h0] at hy
    (repeat' (first | (k_unfold; (try dsimp only)) | walk1 | (k_unmd; k_unfold; (try dsimp only)) | (dsimp only; first | (k_unfold; (try dsimp only)) | walk1)))
    refine KBa.make_K F N rfl (News.isList N (by k_mem)) hy (fun k hk => by have := digs_in _ k hk; omega) (by omega) fun h' t' k F N hin => ?_
    have hb9 := KBa.ints_make hin
    exact hQ _ _ _ _ hb9 F.keep
end

theorem splitBy_no {k : Int} : ∀ {p : List Int}, (∀ d ∈ p, d ≠ k) → splitBy k p = [p]
  | [], _ => rfl
  | y :: p, h => by
    simp only [splitBy]
    rw [if_neg (h y (List.mem_cons_self ..)), splitBy_no fun d hd => h d (List.mem_cons_of_mem _ hd)]
theorem splitBy_app {k : Int} : ∀ {p l : List Int}, (∀ d ∈ p, d ≠ k) → splitBy k (p ++ k :: l) = p :: splitBy k l
  | [], l, _ => by simp only [List.nil_append, splitBy, if_true]
  | y :: p, l, h => by
    simp only [List.cons_append, splitBy]
    rw [if_neg (h y (List.mem_cons_self ..)), splitBy_app fun d hd => h d (List.mem_cons_of_mem _ hd)]
theorem digs_no (a : Nat) : ∀ d ∈ digs a, d ≠ 44 := fun d hd => by have := digs_in a d hd; omega
theorem numOf_nil : numOf [] = none := by decide
theorem numOf_bad {x : Int} {l : List Int} (h : x < 48) : numOf (x :: l) = none := by
  unfold numOf
  rw [if_neg (by rintro ⟨_, h2⟩; simp only [List.getD_cons_zero] at h2; omega)]
  unfold numBy
  rw [if_neg (List.cons_ne_nil _ _)]
  simp only [numGo]
  rw [if_neg (by omega)]
theorem numOf_tail {a : Nat} : numOf (digs a ++ [120]) = none := by
  unfold numOf
  split
  · rfl
  · unfold numBy
    rw [if_neg (by simp), numGo_append, digs_num]
    simp only [Option.bind_some, numGo]
    rw [if_neg (by omega)]
theorem range_two {a b : Nat} (h : 0 < a) : rangeOf (digs a ++ [44] ++ digs b) = some ((a : Int), (b : Int)) := by
  unfold rangeOf
  rw [List.append_assoc, List.cons_append, List.nil_append, splitBy_app (digs_no a), splitBy_no (digs_no b)]
  dsimp only
  rw [digs_of, digs_of]
  dsimp only
  rw [if_neg (by omega)]
theorem range_one {a : Nat} (h : 0 < a) : rangeOf (digs a) = some ((a : Int), 1) := by
  unfold rangeOf
  rw [splitBy_no (digs_no a)]
  dsimp only
  rw [digs_of]
  dsimp only
  rw [if_neg (by omega)]
theorem range_b1 : rangeOf [] = none := by decide
theorem range_b2 : rangeOf [44] = none := by decide
theorem range_b3 {a : Nat} : rangeOf (digs a ++ [44]) = none := by
  unfold rangeOf
  rw [splitBy_app (digs_no a)]
  show (match numOf (digs a), numOf [] with | some a, some b => if a = 0 ∧ b > 0 then none else some (a, b) | _, _ => none) = none
  rw [digs_of, numOf_nil]
theorem range_b4 {b : Nat} : rangeOf ([44] ++ digs b) = none := by
  unfold rangeOf
  have e : splitBy 44 ([44] ++ digs b) = [[], digs b] := by
    have := splitBy_app (k := 44) (p := []) (l := digs b) (by simp)
    rw [splitBy_no (digs_no b)] at this
    exact this
  rw [e]
  dsimp only
  rw [numOf_nil]
theorem range_b5 {a b : Nat} : rangeOf (digs a ++ [44] ++ digs b ++ [44] ++ digs b) = none := by
  unfold rangeOf
  have e : splitBy 44 (digs a ++ [44] ++ digs b ++ [44] ++ digs b) = [digs a, digs b, digs b] := by
    simp only [List.append_assoc, List.cons_append, List.nil_append]
    rw [splitBy_app (digs_no a), splitBy_app (digs_no b), splitBy_no (digs_no b)]
  rw [e]
theorem range_b6 {a : Nat} : rangeOf (digs a ++ [120]) = none := by
  unfold rangeOf
  rw [splitBy_no (fun d hd => by
    rcases List.mem_append.mp hd with hd | hd
    · exact digs_no a d hd
    · rw [List.mem_singleton.mp hd]; decide)]
  dsimp only
  rw [numOf_tail]
theorem range_b7 {a : Nat} : rangeOf ([45] ++ digs a) = none := by
  unfold rangeOf
  rw [splitBy_no (fun d hd => by
    rcases List.mem_cons.mp hd with rfl | hd
    · decide
    · exact digs_no a d hd)]
  dsimp only
  rw [show [45] ++ digs a = 45 :: digs a from rfl, numOf_bad (by decide)]
theorem range_b8 {a b : Nat} : rangeOf (digs a ++ [44, 32] ++ digs b) = none := by
  unfold rangeOf
  have e : splitBy 44 (digs a ++ [44, 32] ++ digs b) = [digs a, 32 :: digs b] := by
    simp only [List.append_assoc, List.cons_append, List.nil_append]
    rw [splitBy_app (digs_no a), splitBy_no (fun d hd => by
      rcases List.mem_cons.mp hd with rfl | hd
      · decide
      · exact digs_no b d hd)]
  rw [e]
  dsimp only
  rw [numOf_bad (by decide), digs_of]
theorem mode_b : modeOf [] = none ∧ modeOf [49, 48, 48, 54, 52, 56] = none ∧ modeOf [49, 48, 48, 54, 52, 120] = none ∧ modeOf [49, 48, 48, 54, 32, 52] = none := by decide

/-- the frames outside, as the ledger holds them -/
noncomputable def Veil (outer : List Env) (g : Heap) (fr : List (Addr × Obj)) : Prop := (∀ b ∈ frs outer, ∃ o sl, g.get? b = some o ∧ (b, ({ o with slots := sl } : Obj)) ∈ fr) ∧ ∀ p ∈ fr, p.1 ∈ frs outer
section
variable {g h h' : Heap} {L : Addr} {m : Str → Option Value} {env : Env} {news nx fr : List (Addr × Obj)}
theorem veil_F (F : Fr g L h m) : Fr (hideAll g (frs outer)) L h m := ⟨F.ns, fun b o e => F.keep b o (of_hideAll _ e), by rw [hideAll_size]; exact F.above⟩
theorem veil_N (N : News g L h news) : News (hideAll g (frs outer)) L h news := fun p hp => ⟨(N p hp).1, (N p hp).2.1, by
  cases q : (hideAll g (frs outer)).get? p.1 with
  | none => rfl
  | some o => have := of_hideAll _ q; rw [(N p hp).2.2] at this; cases this⟩
theorem veil_off (B : Below A base outer g) (N : News g L h news) : ∀ p ∈ news, p.1 ∉ frs outer := fun p hp q => by
  obtain ⟨_, o, ho, _⟩ := B.frames.mem q
  rw [(N p hp).2.2] at ho; cases ho
theorem veil_in (B : Below A base outer g) (F : Fr g L h m) : ∃ fr, Veil outer g fr ∧ News (hideAll g (frs outer)) L h fr := by
  refine ⟨(frs outer).filterMap fun b => (g.get? b).map fun o => (b, o), ⟨fun b hb => ?_, fun p hp => ?_⟩, fun p hp => ?_⟩
  · obtain ⟨_, o, ho, _⟩ := B.frames.mem hb
    exact ⟨o, o.slots, ho, List.mem_filterMap.mpr ⟨b, hb, by rw [ho]; rfl⟩⟩
  · obtain ⟨b, hb, e⟩ := List.mem_filterMap.mp hp
    obtain ⟨o, _, rfl⟩ := Option.map_eq_some_iff.mp e
    exact hb
  · obtain ⟨b, hb, e⟩ := List.mem_filterMap.mp hp
    obtain ⟨o, ho, rfl⟩ := Option.map_eq_some_iff.mp e
    exact ⟨F.keep _ _ ho, (fun q => by rw [show b = L from q, kts_self F] at ho; cases ho), hideAll_none _ hb⟩
theorem veil_B (B : Below A base outer g) (V : Veil outer g fr) (F : Fr (hideAll g (frs outer)) L h m) (N : News (hideAll g (frs outer)) L h nx) (hfr : ∀ p ∈ fr, p ∈ nx) (hf : env.frame = some L) (hk : env.scope.kind = .function) :
    Below (A.deeper env) base (env :: outer) h := by
  have hbase : ∀ b o, base.get? b = some o → (hideAll g (frs outer)).get? b = some o := fun b o e => hideAll_get _ (B.stays b o e) fun q => by rw [(B.frames.mem q).1] at e; cases e
  have hnew : base.get? L = none := by
    cases hq : base.get? L with
    | none => rfl
    | some o => exact absurd (Nat.lt_of_lt_of_le (Heap.lt_size (hbase L o hq)) F.above) (Nat.lt_irrefl _)
  refine ⟨Around.frames_deeper B.stack, fun b o e => F.keep b o (hbase b o e), ?_⟩
  refine .cons (by rw [hk]; decide) hf F.ns hnew (B.frames.of_keeps fun b o e _ => ?_)
  by_cases q : b ∈ frs outer
  · obtain ⟨o', sl, ho', hm⟩ := V.1 b q
    rw [e] at ho'; cases ho'
    exact ⟨_, (N _ (hfr _ hm)).1, rfl⟩
  · exact ⟨o, F.keep b o (hideAll_get _ e q), rfl⟩
theorem veil_U (V : Veil outer g fr) (F : Fr (hideAll g (frs outer)) L h m) (N : News (hideAll g (frs outer)) L h nx) (hfr : ∀ p ∈ fr, p ∈ nx) (hf : env.frame = some L) (U : KeepsU (env :: outer) h h') :
    ∃ fr', Veil outer g fr' ∧ Fr (hideAll g (frs outer)) L h' m ∧ News (hideAll g (frs outer)) L h' fr' ∧ ∀ ny, (∀ p ∈ ny, p ∈ nx) → (∀ p ∈ ny, p.1 ∉ frs outer) → News (hideAll g (frs outer)) L h' ny := by
  obtain ⟨g₁, T₁, k₁⟩ := U
  have hmem : ∀ b, b ∈ frs (env :: outer) → b = L ∨ b ∈ frs outer := fun b hb => by
    rw [show frs (env :: outer) = L :: frs outer from by simp [frs, hf]] at hb
    exact List.mem_cons.mp hb
  have hup : h.UpToSlots h' := fun b o e _ => by
    obtain ⟨sl, q⟩ := T₁.up e
    exact ⟨sl, k₁ _ _ q⟩
  have hat : ∀ p ∈ fr, ∃ sl, h'.get? p.1 = some { p.2 with slots := sl } := fun p hp => by
    obtain ⟨sl, q⟩ := T₁.up (N _ (hfr p hp)).1
    exact ⟨sl, k₁ _ _ q⟩
  refine ⟨fr.map fun p => (p.1, (h'.get? p.1).getD p.2), ⟨fun b hb => ?_, fun p hp => ?_⟩, ⟨hup.ns F.ns, fun b o e => k₁ _ _ (T₁.other b o (F.keep b o e) fun hm => ?_), F.above⟩, fun p hp => ?_, fun ny h1 h2 p hp => ?_⟩
  · obtain ⟨o, sl, ho, hm⟩ := V.1 b hb
    obtain ⟨sl', hs⟩ := hat _ hm
    exact ⟨o, sl', ho, List.mem_map.mpr ⟨_, hm, by rw [show h'.get? b = some { o with slots := sl' } from hs]; rfl⟩⟩
  · obtain ⟨q, hq, rfl⟩ := List.mem_map.mp hp
    exact V.2 q hq
  · rcases hmem b hm with z | z
    · rw [z, kts_self F] at e; cases e
    · rw [hideAll_none _ z] at e; cases e
  · obtain ⟨q, hq, rfl⟩ := List.mem_map.mp hp
    obtain ⟨sl, hs⟩ := hat _ hq
    refine ⟨?_, (N _ (hfr q hq)).2⟩
    show h'.get? q.1 = some ((h'.get? q.1).getD q.2)
    rw [hs]; rfl
  · refine ⟨k₁ _ _ (T₁.other _ _ (N _ (h1 p hp)).1 fun hm => ?_), (N _ (h1 p hp)).2⟩
    rcases hmem _ hm with z | z
    · exact (N _ (h1 p hp)).2.1 z
    · exact h2 p hp z
theorem veil_out (B : Below A base outer g) (V : Veil outer g fr) (F : Fr (hideAll g (frs outer)) L h m) (N : News (hideAll g (frs outer)) L h nx) (hfr : ∀ p ∈ fr, p ∈ nx) : KeepsU outer g h := by
  obtain ⟨T, S⟩ := kts_turn_at (h := h) (fs := frs outer) (g := g)
    (fun b hb => by
      obtain ⟨_, o, ho, _⟩ := B.frames.mem hb
      exact ⟨o, ho⟩)
    (fun b o e nm => F.keep b o (hideAll_get _ e nm))
    (fun b o e hm => by
      obtain ⟨o', sl, ho', hm'⟩ := V.1 b hm
      rw [e] at ho'; cases ho'
      exact ⟨sl, (N _ (hfr _ hm')).1⟩)
  exact ⟨_, T, S⟩
end

section
variable {prog : Program} {w : World} {A : Around} {E : Value → Shared → Prop} {s : Shared} {h₀ : Heap} {L : Addr} {m : Str → Option Value} {env : Env} {elt ct : Expr} {x : Str} {scope : Scope} {cl : List (Str × Addr)}
theorem overL {T : Addr} {oT : Obj} {items : Array Value} {news : List (Addr × Obj)} (hc : oT.cls = .type "list") (hd : ∃ n, oT.data = .seq items n) (hz : items.size ≤ 16777216) (hh : A.handled = none) (F : Fr h₀ L s.heap m) (N : News h₀ L s.heap news) (hT : (T, oT) ∈ news) :
    Over prog w A h₀ L (fun nw => (T, oT) ∈ nw) (fun i v => items[i]? = some v) items.size s.heap.objs.size { s with heap := s.heap.push { cls := .type "list_iterator", data := .fields #[.ref T, .int 0 0] } } := by
  have hlt : T < s.heap.objs.size := Heap.lt_size (N _ hT).1
  have W := Walks.list (prog := prog) (w := w) hh s.heap.objs.size T (Nat.ne_of_lt hlt) items
  refine ⟨⟨[s.heap.objs.size, T], _, W, fun i h st => ?_, fun i h h' o nw st e1 e2 k N' S => ⟨?_, ⟨_, (N' _ S).1, hc, hd⟩⟩, ⟨⟨_, Heap.get?_push_size _ rfl, rfl, rfl⟩, ⟨_, Heap.get?_push_of_some _ (N _ hT).1, hc, hd⟩⟩, fun b hb => ?_⟩, by rw [sizeLine_eq]; exact hz, Nat.ne_of_lt F.ns.lt, next_is_new F⟩
  · obtain ⟨o, ho, _⟩ := st.1; exact ⟨o, ho⟩
  · obtain ⟨o', ho', r⟩ := st.1
    rw [e1] at ho'; cases ho'
    exact ⟨o, e2, r⟩
  · show b < (s.heap.push _).objs.size
    rw [Heap.size_push]
    rcases List.mem_cons.mp hb with rfl | hb
    · exact Nat.lt_succ_self _
    · rw [List.mem_singleton.mp hb]; exact Nat.lt_succ_of_lt hlt
/-- a comprehension over a list of the ledger -/
theorem iterCLT {T : Addr} {oT : Obj} {items : Array Value} {Q : Value → Shared → Prop} {news : List (Addr × Obj)} (hc : oT.cls = .type "list") (hd : ∃ n, oT.data = .seq items n) (hz : items.size ≤ 16777216) (hh : A.handled = none) (F : Fr h₀ L s.heap m) (N : News h₀ L s.heap news) (hT : (T, oT) ∈ news)
    (R : ∀ g, LCt.CompRestT prog w A h₀ L m env ct elt x scope cl { s with heap := g } (fun nw => (T, oT) ∈ nw) (fun i v => items[i]? = some v) (LCg.FinE h₀ L m { s with heap := g } Q) items.size 0 [] news) :
    wpAny (model prog w) A (pyIter (.ref T)) (CompAtT prog w A h₀ L m env ct elt x scope cl Q) E s :=
  wpAny_pyIter_list ⟨_, (N _ hT).1, hc, hd⟩ ⟨_, _, _, _, news, rfl, overL hc hd hz hh F N hT, F.push _, fun p hp => ⟨Heap.get?_push_of_some _ (N p hp).1, (N p hp).2⟩, fun p hp => Nat.ne_of_lt (Heap.lt_size (N p hp).1), hT, R _⟩
end
section
variable {prog : Program} {w : World} {A : Around} {s : Shared} {g h h' : Heap} {L : Addr} {m : Str → Option Value} {env : Env} {elt ct : Expr} {x : Str} {scope : Scope} {cl : List (Str × Addr)} {N0 fr : List (Addr × Obj)}
theorem veil_turn {I C D : Addr} {oI oC oD : Obj} (V : Veil outer g fr) (F : Fr (hideAll g (frs outer)) L h m) (N : News (hideAll g (frs outer)) L h ((I, oI) :: (C, oC) :: (D, oD) :: (N0 ++ fr))) (off : LCg.Off3 I C D (N0 ++ fr)) (hoff : ∀ p ∈ N0, p.1 ∉ frs outer)
    (hf : env.frame = some L) (U : KeepsU (env :: outer) h h') : ∃ fr', Veil outer g fr' ∧ Fr (hideAll g (frs outer)) L h' m ∧ News (hideAll g (frs outer)) L h' ((I, oI) :: (C, oC) :: (D, oD) :: (N0 ++ fr')) := by
  have hfr : ∀ b ∈ frs outer, b ≠ I ∧ b ≠ C ∧ b ≠ D := fun b hb => by
    obtain ⟨o, sl, _, hm⟩ := V.1 b hb
    exact LCg.Off3.mem off _ (List.mem_append_right _ hm)
  obtain ⟨fr', V', F', N', hny⟩ := veil_U V F N (fun p hp => List.mem_cons_of_mem _ (List.mem_cons_of_mem _ (List.mem_cons_of_mem _ (List.mem_append_right _ hp)))) hf U
  refine ⟨fr', V', F', fun p hp => ?_⟩
  have hall := hny ((I, oI) :: (C, oC) :: (D, oD) :: N0) (fun p hp => by
    rcases List.mem_cons.mp hp with rfl | hp
    · exact List.mem_cons_self
    rcases List.mem_cons.mp hp with rfl | hp
    · exact List.mem_cons_of_mem _ List.mem_cons_self
    rcases List.mem_cons.mp hp with rfl | hp
    · exact List.mem_cons_of_mem _ (List.mem_cons_of_mem _ List.mem_cons_self)
    · exact List.mem_cons_of_mem _ (List.mem_cons_of_mem _ (List.mem_cons_of_mem _ (List.mem_append_left _ hp)))) (fun p hp => by
    rcases List.mem_cons.mp hp with rfl | hp
    · exact fun q => (hfr _ q).1 rfl
    rcases List.mem_cons.mp hp with rfl | hp
    · exact fun q => (hfr _ q).2.1 rfl
    rcases List.mem_cons.mp hp with rfl | hp
    · exact fun q => (hfr _ q).2.2 rfl
    · exact hoff p hp)
  rcases List.mem_cons.mp hp with rfl | hp
  · exact hall _ List.mem_cons_self
  rcases List.mem_cons.mp hp with rfl | hp
  · exact hall _ (List.mem_cons_of_mem _ List.mem_cons_self)
  rcases List.mem_cons.mp hp with rfl | hp
  · exact hall _ (List.mem_cons_of_mem _ (List.mem_cons_of_mem _ List.mem_cons_self))
  rcases List.mem_append.mp hp with hp | hp
  · exact hall _ (List.mem_cons_of_mem _ (List.mem_cons_of_mem _ (List.mem_cons_of_mem _ hp)))
  · exact N' _ hp
/-- a turn's end in the veiled ground: the test has failed -/
noncomputable def NoEnd (outer : List Env) (g : Heap) (L : Addr) (m : Str → Option Value) (l3 N0 : List (Addr × Obj)) (s₁ : Shared) (ok : Bool) (s' : Shared) : Prop :=
  ok = false ∧ ∃ h' tk' fr', s' = { s₁ with heap := h', toks := tk' } ∧ Veil outer g fr' ∧ Fr (hideAll g (frs outer)) L h' m ∧ News (hideAll g (frs outer)) L h' (l3 ++ (N0 ++ fr'))
theorem restV {items : Array Value} {T : Addr} {oT : Obj} {Fin : List Value → List (Addr × Obj) → Prop} (hT : (T, oT) ∈ N0)
    (turn : ∀ v I oI C oC D m₂ h tk fr (E' : Value → Shared → Prop), v ∈ items.toList → LCg.NsObj oC m₂ → m₂ x = some v → Veil outer g fr → Fr (hideAll g (frs outer)) L h m → News (hideAll g (frs outer)) L h ((I, oI) :: (C, oC) :: (D, LCg.lst []) :: (N0 ++ fr)) → LCg.Off3 I C D (N0 ++ fr) → ((@Ne Nat I C) ∧ (@Ne Nat I D) ∧ (@Ne Nat C D)) →
      wpAny (model prog w) A (isTrue ct (compEnvC scope cl C env) (eval ct (compEnvC scope cl C env))) (NoEnd outer g L m [(I, oI), (C, oC), (D, LCg.lst [])] N0 { s with heap := h, toks := tk }) E' { s with heap := h, toks := tk })
    (fin : ∀ fr, Veil outer g fr → Fin [] (N0 ++ fr)) (V : Veil outer g fr) :
    LCt.CompRestT prog w A (hideAll g (frs outer)) L m env ct elt x scope cl s (fun nw => (T, oT) ∈ nw) (fun i v => items[i]? = some v) Fin items.size 0 [] (N0 ++ fr) := by
  refine restTJ (fun i ys nw => ys = [] ∧ ∃ fr, nw = N0 ++ fr ∧ Veil outer g fr) ?_ ?_ ⟨rfl, fr, rfl, V⟩
  · rintro i ys nw v I oI C oC D m₂ h tk E' hi hv ⟨rfl, fr, rfl, V⟩ hC hx F N off ne
    refine wpAny_mono (turn v I oI C oC D m₂ h tk fr E' (List.mem_of_getElem? (i := i) (by rw [Array.getElem?_toList]; exact hv)) hC hx V F N off ne) (fun ok s₃ hr => ?_) fun _ _ e => e
    obtain ⟨rfl, h', tk', fr', e, V', F', N'⟩ := hr
    simp only [Bool.false_eq_true, if_false]
    refine ⟨h', tk', N0 ++ fr', e, F', N', LCg.Off3.of fun p hp => ?_, List.mem_append_left _ hT, trivial, fr', rfl, V'⟩
    rcases List.mem_append.mp hp with hp | hp
    · exact LCg.Off3.mem off _ (List.mem_append_left _ hp)
    · obtain ⟨o, sl, _, hm⟩ := V.1 _ (V'.2 p hp)
      have q := LCg.Off3.mem off _ (List.mem_append_right N0 hm)
      exact q
  · rintro ys nw ⟨rfl, fr, rfl, V⟩
    exact fin fr V
end

theorem c_rangeS (hh : A.handled = none) (B : Below A base outer s.heap) (X : (hd.heap_39 w.params).In s.heap) (T : Top hd.view_39 LO mean mg mb s.heap) (hdp : A.depth + 80 < recursionLimit) (hun : A.units + 240 < cLine)
    {b : Array UInt8} {ks : List Int} {x y : Int} {t : Tok} (hb : KBw.bInts b = ks) (hk : ks.length ≤ 4096) (hr : rangeOf ks = some (x, y))
    (hQ : ∀ tx ty D h' tk', Keeps s.heap h' → h'.get? D = some { cls := .type "tuple", data := .seq #[.int x tx, .int y ty] } → s.heap.get? D = none → Q (.ref D) { s with heap := h', toks := tk' }) :
    wpAny (model PySem.Challenge.rw_pb0094_01.row.prog w) A (call (.ref 155) [.bytes b t]) Q E s := by
  refine c_range w hh B X T hdp hun hb hk ?_ ?_
  · intro x' y' tx ty D h' hr' kp hD h0 tk'
    rw [hr] at hr'
    cases hr'
    exact hQ tx ty D h' tk' kp hD h0
  · intro e h' hn
    rw [hr] at hn; cases hn
local macro_rules | `(tactic| walk_at "call ref") => `(tactic| (k_here; first
  | (k_dflt (refine' c_figures _ ?kh ?kB ?kX ?kT ?kd ?ku ?k1 ?k2 ?_; ((((walk_at "m_prem"; (case k1 => (first | kba_ints | assumption | omega | decide | (simp only [List.length_take, List.length_append, List.length_drop, List.length_replicate, List.length_map, List.length_cons, List.length_nil, KBc.clip_lit, clipAt_nat]; omega))))); (case k2 => (first | kba_ints | assumption | omega | decide | (simp only [List.length_take, List.length_append, List.length_drop, List.length_replicate, List.length_map, List.length_cons, List.length_nil, KBc.clip_lit, clipAt_nat]; omega))))); k_whole); intros; (((with_reducible rename Fr _ _ _ _ => mF); (with_reducible rename News _ _ _ _ => mN); (with_reducible rename Keeps _ _ => mK); (have zF := Fr.keptAll mF mK); (have zN := News.grown mN mK); clear mN mF mK; (try dsimp only); (try k_fold))))
  | (k_dflt (refine' c_rangeS _ ?kh ?kB ?kX ?kT ?kd ?ku ?k1 ?k2 ?k3 ?_; walk_at "m_prem"; (case k1 => kba_ints); (case k3 => assumption); (case k2 => (first | omega | (simp only [List.length_append, List.length_map, List.length_cons, List.length_nil]; omega)))); intro tx' ty' D' h' tk' mk9 mD9 mz9; (with_reducible rename Fr _ _ _ _ => mF); (with_reducible rename News _ _ _ _ => mN); (have F' := Fr.keptAll mF mk9); (have N' := News.more F' (News.grown mN mk9) mD9 (fun _ _ q => nomatch q) (kts_none mF.keep mz9)); clear mN mF mk9 mD9 mz9; (try dsimp only); (try k_fold))))
theorem fig_facts {v u : Int} {b1 b2 : Array UInt8} (_ : KBw.bInts b1 = digs (1 + v).toNat) (_ : KBw.bInts b2 = digs u.toNat) (h0 : 0 ≤ v) (h1 : v < 99999) (h2 : 0 ≤ u) (h3 : u < 1000) :
    (digs (1 + v).toNat).length ≤ 5 ∧ (digs u.toNat).length ≤ 5 ∧ rangeOf (digs (1 + v).toNat ++ List.map (fun (c : UInt8) => (c.toNat : Int)) [44] ++ digs u.toNat) = some (1 + v, u) ∧ rangeOf (digs (1 + v).toNat) = some (1 + v, 1) := by
  refine ⟨digs_length (by omega), digs_length (by omega), ?_, ?_⟩
  · rw [show List.map (fun (c : UInt8) => (c.toNat : Int)) [44] = [44] from rfl, range_two (by omega), Int.toNat_of_nonneg (by omega), Int.toNat_of_nonneg h2]
  · rw [range_one (by omega), Int.toNat_of_nonneg (by omega)]
theorem bent_ok {a b : Nat} {u1 u2 u3 u4 u5 u6 u7 u8 : Tok} {x1 x2 x3 x4 x5 x6 x7 x8 : Array UInt8} (ha : (digs a).length ≤ 5) (hb : (digs b).length ≤ 5) (h1 : KBw.bInts x1 = []) (h2 : KBw.bInts x2 = [44]) (h3 : KBw.bInts x3 = digs a ++ [44]) (h4 : KBw.bInts x4 = [44] ++ digs b)
    (h5 : KBw.bInts x5 = digs a ++ [44] ++ digs b ++ [44] ++ digs b) (h6 : KBw.bInts x6 = digs a ++ [120]) (h7 : KBw.bInts x7 = [45] ++ digs a) (h8 : KBw.bInts x8 = digs a ++ [44, 32] ++ digs b) :
    ∀ v ∈ [Value.bytes x1 u1, .bytes x2 u2, .bytes x3 u3, .bytes x4 u4, .bytes x5 u5, .bytes x6 u6, .bytes x7 u7, .bytes x8 u8], ∃ b t, v = .bytes b t ∧ rangeOf (KBw.bInts b) = none ∧ (KBw.bInts b).length ≤ 100 := by
  intro v hv
  simp only [List.mem_cons, List.not_mem_nil, or_false] at hv
  rcases hv with rfl | rfl | rfl | rfl | rfl | rfl | rfl | rfl
  · exact ⟨_, _, rfl, by rw [h1, range_b1], by rw [h1]; decide⟩
  · exact ⟨_, _, rfl, by rw [h2, range_b2], by rw [h2]; decide⟩
  · exact ⟨_, _, rfl, by rw [h3, range_b3], by rw [h3]; simp only [List.length_append, List.length_cons, List.length_nil]; omega⟩
  · exact ⟨_, _, rfl, by rw [h4, range_b4], by rw [h4]; simp only [List.length_append, List.length_cons, List.length_nil]; omega⟩
  · exact ⟨_, _, rfl, by rw [h5, range_b5], by rw [h5]; simp only [List.length_append, List.length_cons, List.length_nil]; omega⟩
  · exact ⟨_, _, rfl, by rw [h6, range_b6], by rw [h6]; simp only [List.length_append, List.length_cons, List.length_nil]; omega⟩
  · exact ⟨_, _, rfl, by rw [h7, range_b7], by rw [h7]; simp only [List.length_append, List.length_cons, List.length_nil]; omega⟩
  · exact ⟨_, _, rfl, by rw [h8, range_b8], by rw [h8]; simp only [List.length_append, List.length_cons, List.length_nil]; omega⟩
theorem news_trim {g h : Heap} {L : Addr} {a b c : Addr × Obj} {r : List (Addr × Obj)} (N : News g L h (a :: r)) (hb : b ∈ r) (hc : c ∈ r) : News g L h [a, b, c] := fun p hp => by
  rcases List.mem_cons.mp hp with rfl | hp
  · exact N _ List.mem_cons_self
  rcases List.mem_cons.mp hp with rfl | hp
  · exact N _ (List.mem_cons_of_mem _ hb)
  · rw [List.mem_singleton.mp hp]; exact N _ (List.mem_cons_of_mem _ hc)
theorem veil_X {K : Frag} {g : Heap} (B : Below A base outer g) (X : K.In base) : K.In (hideAll g (frs outer)) := X.keeps fun b o e => hideAll_get _ (B.stays b o e) fun q => by rw [(B.frames.mem q).1] at e; cases e
theorem veil_T {p : Program} {loose : List Str} {g : Heap} (B : Below A base outer g) (T : Top p loose mean mg mb base) : Top p loose mean mg mb (hideAll g (frs outer)) := T.keeps fun b o e => hideAll_get _ (B.stays b o e) fun q => by rw [(B.frames.mem q).1] at e; cases e
theorem news_both {g h : Heap} {L : Addr} {N0 fr : List (Addr × Obj)} (N : News g L h N0) (M : News g L h fr) : News g L h (N0 ++ fr) := fun p hp => (List.mem_append.mp hp).elim (N p) (M p)
section
set_option pp.deepTerms false
set_option pp.maxSteps 1500
theorem c_ranges {g : Heap} {D C : Addr} {oD oC : Obj} (hh : A.handled = none) (B : Below A base outer g) (XB : (hd.heap_39 w.params).In base) (TB : Top hd.view_39 LO mean mg mb base) (hdp : A.depth + 160 < recursionLimit) (hun : A.units + 480 < cLine)
    (G : Led g s.heap [(D, oD), (C, oC)]) (dk : Deck w C oD oC) (hlt : @LT.lt Nat _ D C) (hlo : (D == sysModules) = false)
    (hQ : ∀ oD' oC' h' tk', Deck w C oD' oC' → KeepsU outer g h' → h'.get? D = some oD' → h'.get? C = some oC' → Q (.bool true) { s with heap := h', toks := tk' }) :
    wpAny (model PySem.Challenge.rw_pb0094_01.row.prog w) A (call (.ref 212) [.ref D]) Q E s := by
  have mark0 := @Mark.on "comp"
  have mark1 := @Mark.on "ref"
  have markc := @Mark.on "call"
  have X := XB.keeps B.stays
  have T := TB.keeps B.stays
  ((((
  (with_reducible rename Frag.In _ _ => mX0); revert mX0; k_fill; intro mX1
  (with_reducible rename Below _ _ _ _ => mB0); (with_reducible rename (Around.handled _ = none) => mh0); (with_reducible rename (Around.depth _ + _ < recursionLimit) => md0); (with_reducible rename (Around.units _ + _ < cLine) => mu0)
  first | refine m_open mh0 mB0 md0 mu0 ?_ | refine s_open mh0 mB0 md0 mu0 ?_
  clear mh0 mB0 md0 mu0
  intro zdp zun zgd mB1 md1 mu1)); (first
  | (refine' enterP ?s1x45x46 ?s2x45x46 ?s3x45x46 ?s4x45x46 ?s5x45x46 ?s6x45x46 ?s7x45x46 ?s8x45x46 ?s9x45x46 ?_ ?s11x45x46 ?s12x45x46 ?s13x45x46 ?s14x45x46; (((case s1x45x46 => k_asm); (case s2x45x46 => k_asm); (case s3x45x46 => k_asm); (case s4x45x46 => first | assumption | exact Led.refl _); (case s5x45x46 => k_is); (case s6x45x46 => k_is); (case s7x45x46 => walk_at "m_rd"); (case s8x45x46 => first | exact BindsTo.of_eq rfl | exact binds_K (by k_in) rfl (by k_is) rfl rfl rfl); (case s9x45x46 => first | exact rfl | exact locs rfl); (try (case s10x45x46 => first | exact rfl | decide +kernel)); (case s11x45x46 => exact rfl); (case s12x45x46 => exact rfl); (case s13x45x46 => exact rfl))); (case s14x45x46 => decide); k_whole; intro zL zh zF zN; (try dsimp only); (try k_fold))
  | (refine' enterC ?s1x45x46 ?s2x45x46 ?s3x45x46 ?s4x45x46 ?s5x45x46 ?s6x45x46 ?s7x45x46 ?s8x45x46 ?s9x45x46 ?s10x45x46 ?_ ?s11x45x46 ?s12x45x46 ?s13x45x46; (((case s1x45x46 => k_asm); (case s2x45x46 => k_asm); (case s3x45x46 => k_asm); (case s4x45x46 => first | assumption | exact Led.refl _); (case s5x45x46 => k_is); (case s6x45x46 => k_is); (case s7x45x46 => walk_at "m_rd"); (case s8x45x46 => first | exact BindsTo.of_eq rfl | exact binds_K (by k_in) rfl (by k_is) rfl rfl rfl); (case s9x45x46 => first | exact rfl | exact locs rfl); (try (case s10x45x46 => first | exact rfl | decide +kernel)); (case s11x45x46 => exact rfl); (case s12x45x46 => exact rfl); (case s13x45x46 => exact rfl))); k_whole; intro zL zh ztk zcells zF zN zY zl; (try k_lt zl); k_cells zY; (try simp only [List.cons_append, List.nil_append] at zN); (try dsimp only); (try k_fold)))))
  (repeat' (first | (k_unfold; (try dsimp only)) | walk1 | (k_unmd; k_unfold; (try dsimp only)) | (dsimp only; first | (k_unfold; (try dsimp only)) | walk1)))
  rename KBw.bInts _ = digs (Int.toNat (1 + _)) => e1
  rename KBw.bInts _ = digs _ => e2
  obtain ⟨hl1, hl2, r2, r1⟩ := fig_facts e1 e2 (by assumption) (by assumption) (by assumption) (by assumption)
  (repeat' (first | (k_unfold; (try dsimp only)) | walk1 | (k_unmd; k_unfold; (try dsimp only)) | (dsimp only; first | (k_unfold; (try dsimp only)) | walk1)))
  unfold Hold
  (rename Fr _ _ _ _ => F1); (rename News _ _ _ _ => N1); (rename Below _ _ _ _ => B1)
  refine compWT (F₀ := veil_F (outer := outer) F1) (by with_unfolding_all rfl) (by decide) (by rfl) (by decide) (by rfl) ?_
  (repeat' (first | (k_unfold; (try dsimp only)) | walk1 | (k_unmd; k_unfold; (try dsimp only)) | (dsimp only; first | (k_unfold; (try dsimp only)) | walk1)))
  unfold Hold
  (rename Fr _ _ _ _ => F4); (rename News _ _ _ _ => N4)
  have N5 := news_trim N4 (b := (D, _)) (c := (C, _)) (by k_mem) (by k_mem)
  clear N4
  have hoff := veil_off B1 N5
  obtain ⟨fr, V, Nf⟩ := veil_in B1 F4
  have X0 := veil_X B1 XB
  have T0 := veil_T B1 TB
  refine iterCLT rfl ⟨_, rfl⟩ (Nat.le_of_ble_eq_true rfl) rfl (veil_F F4) (news_both (veil_N N5) Nf) (List.mem_append_left _ List.mem_cons_self) fun gg => restV List.mem_cons_self ?turn ?fin V
  case turn =>
    clear F4 N5 Nf V
    intro v I oI C' oC' D' m₂ h tk fr E' hv hC hx V F N off ne
    have hq : ∃ b t, v = .bytes b t ∧ rangeOf (KBw.bInts b) = none ∧ (KBw.bInts b).length ≤ 100 := by
      refine bent_ok hl1 hl2 ?h1 ?h2 ?h3 ?h4 ?h5 ?h6 ?h7 ?h8 v hv
      case h1 => rfl
      case h2 => rfl
      all_goals assumption
    obtain ⟨bv, tv, rfl, hbn, hbl⟩ := hq
    (repeat' (first | (k_unfold; (try dsimp only)) | walk1 | (k_unmd; k_unfold; (try dsimp only)) | (dsimp only; first | (k_unfold; (try dsimp only)) | walk1)))
    unfold Hold
    refine c_hrange w rfl (veil_B B1 V F N (fun p hp => List.mem_cons_of_mem _ (List.mem_cons_of_mem _ (List.mem_cons_of_mem _ (List.mem_append_right _ hp)))) rfl rfl) XB TB (by walk_at "m_rd") (by walk_at "m_ru") rfl (by omega) ?_ ?_
    · intro D2 h2 hr
      exact absurd hbn hr
    · intro h2 _ hU tk2
      obtain ⟨fr', V', F', N'⟩ := veil_turn V F N off hoff rfl hU
      clear F N off V
      (repeat' (first | (k_unfold; (try dsimp only)) | walk1 | (k_unmd; k_unfold; (try dsimp only)) | (dsimp only; first | (k_unfold; (try dsimp only)) | walk1)))
      exact ⟨rfl, _, _, fr', rfl, V', F', N'⟩
  case fin =>
    intro fr V D' h tk F N o1
    (repeat' (first | (k_unfold; (try dsimp only)) | walk1 | (k_unmd; k_unfold; (try dsimp only)) | (dsimp only; first | (k_unfold; (try dsimp only)) | walk1)))
    rename Fr _ _ _ _ => F6
    rename News _ _ _ _ => N6
    rename Deck _ _ _ _ => dk6
    exact hQ _ _ _ _ dk6 (veil_out B1 V F6 N6 (fun p hp => List.mem_cons_of_mem _ (List.mem_cons_of_mem _ (List.mem_append_right _ hp)))) (N6.get (by k_mem)) (N6.get (by k_mem))
end

section
variable {prog : Program} {w : World} {A : Around} {E : Value → Shared → Prop} {s : Shared} {env : Env} {g : Heap} {L : Addr} {m₀ : Str → Option Value}
theorem joinTwoA {st : Stmt} {rest : List Stmt} {Q : Flow → Shared → Prop} (x y : Str) (P : Value → Value → Prop) (F : Fr g L s.heap m₀)
    (h : wpAny (model prog w) A (exec st env) (GivesTwo g L (fun u v z => if z = x then some u else if z = y then some v else m₀ z) P s) E s)
    (hc : ∀ u v h tk, P u v → Fr g L h (fun z => if z = x then some u else if z = y then some v else m₀ z) → wpAny (model prog w) A (execs rest env) Q E { s with heap := h, toks := tk }) :
    wpAny (model prog w) A (execs (st :: rest) env) Q E s :=
  wpAny_execs_cons (wpAny_mono h (fun _ _ q => by obtain ⟨e1, u, v, e2, e3, h, tk, e5⟩ := q; subst e1; subst e5; exact hc u v h tk e2 e3) fun _ _ e => e)
end
theorem nil_of {g h : Heap} {L : Addr} {m : Str → Option Value} (_ : Fr g L h m) : News g L h [] := News.nil
theorem modes_at {v : Int} (h0 : 0 ≤ v) (h1 : v < 5) : Modes ([33188, 33261, 40960, 57344, 33152].getD v.toNat 0) := by
  have h : v = 0 ∨ v = 1 ∨ v = 2 ∨ v = 3 ∨ v = 4 := by omega
  unfold Modes
  rcases h with rfl | rfl | rfl | rfl | rfl <;> decide
theorem oct_one (m : Int) (k : Nat) (d : Int) (hd : (8 : Int) ^ k = d) (h : 0 < d) : (m.fdiv (8 ^ k)).fmod 8 = m / d % 8 := by
  rw [hd, Int.fdiv_eq_ediv_of_nonneg _ (Int.le_of_lt h), Int.fmod_eq_emod_of_nonneg _ (by decide : (0 : Int) ≤ 8)]
theorem byte_of {x : Int} (h0 : 0 ≤ x) (h1 : x < 256) : (((x.toNat.toUInt8).toNat : Nat) : Int) = x := by
  have e := KBa.ints_make (ns := [x]) (by intro y hy; rw [List.mem_singleton.mp hy]; exact ⟨h0, h1⟩)
  simpa [byteArr, KBw.bInts] using e
theorem oct_sign (m : Int) (k : Nat) (d : Int) (hd : (8 : Int) ^ k = d) (h : 0 < d) : ((((48 + (m.fdiv (8 ^ k)).fmod 8).toNat.toUInt8).toNat : Nat) : Int) = 48 + m / d % 8 := by
  rw [oct_one m k d hd h, byte_of (by omega) (by omega)]
theorem oct_sign0 (m : Int) : ((((48 + (m.fdiv (8 ^ 0)).fmod 8).toNat.toUInt8).toNat : Nat) : Int) = 48 + m % 8 := by
  rw [oct_sign m 0 1 (by decide) (by decide), Int.ediv_one]
theorem mode_of {m : Int} (h : Modes m) : modeOf (octDigits m) = some m := by
  rcases h with rfl | rfl | rfl | rfl | rfl <;> decide
theorem oct_at {m : Int} {i : Nat} (h : i < 6) : (octDigits m)[i]? = some ((((48 + (m.fdiv (8 ^ (5 + (i : Int) * -1).toNat)).fmod 8).toNat.toUInt8).toNat : Nat) : Int) := by
  match i, h with
  | 0, _ => exact congrArg some (oct_sign m 5 32768 (by decide) (by decide)).symm
  | 1, _ => exact congrArg some (oct_sign m 4 4096 (by decide) (by decide)).symm
  | 2, _ => exact congrArg some (oct_sign m 3 512 (by decide) (by decide)).symm
  | 3, _ => exact congrArg some (oct_sign m 2 64 (by decide) (by decide)).symm
  | 4, _ => exact congrArg some (oct_sign m 1 8 (by decide) (by decide)).symm
  | 5, _ => exact congrArg some (oct_sign0 m).symm
theorem c_tmodeS (hh : A.handled = none) (B : Below A base outer s.heap) (X : (hd.heap_39 w.params).In s.heap) (T : Top hd.view_39 LO mean mg mb s.heap) (hdp : A.depth + 60 < recursionLimit) (hun : A.units + 180 < cLine)
    {b : Array UInt8} {ks : List Int} {m : Int} {t : Tok} (hb : KBw.bInts b = ks) (hk : ks.length ≤ 4096) (hm : modeOf ks = some m)
    (hQ : ∀ t' h' tk', Keeps s.heap h' → Q (.int m t') { s with heap := h', toks := tk' }) :
    wpAny (model PySem.Challenge.rw_pb0094_01.row.prog w) A (call (.ref 148) [.bytes b t]) Q E s := by
  refine c_tmode w hh B X T hdp hun hb hk ?_ ?_
  · intro n t' h' hn kp tk'
    rw [hm] at hn
    cases hn
    exact hQ t' h' tk' kp
  · intro e h' hn
    rw [hm] at hn; cases hn
theorem oct_take {m : Int} {i : Nat} {x : Int} {l : List Int} (hl : l = (octDigits m).take i ++ [x]) (hx : (octDigits m)[i]? = some x) : l = (octDigits m).take (i + 1) := by
  rw [hl, List.take_add_one, hx]; rfl
section
local macro_rules | `(tactic| walk_at "call ref") => `(tactic| (k_here; (first
  | k_dflt (refine' c_mode _ ?kh ?kB ?kX ?kT ?kd ?ku ?k1 ?_; ((walk_at "m_prem"; (case k1 => (first | kba_ints | assumption | omega | decide | (simp only [List.length_take, List.length_append, List.length_drop, List.length_replicate, List.length_map, List.length_cons, List.length_nil, KBc.clip_lit, clipAt_nat]; omega))))))
  | k_dflt (refine' c_tmodeS _ ?kh ?kB ?kX ?kT ?kd ?ku ?k1 ?k2 ?k3 ?_; ((((walk_at "m_prem"; (case k1 => (first | kba_ints | assumption | omega | decide | (simp only [List.length_take, List.length_append, List.length_drop, List.length_replicate, List.length_map, List.length_cons, List.length_nil, KBc.clip_lit, clipAt_nat]; omega))))); (case k2 => (first | kba_ints | assumption | omega | decide | (simp only [List.length_take, List.length_append, List.length_drop, List.length_replicate, List.length_map, List.length_cons, List.length_nil, KBc.clip_lit, clipAt_nat]; omega))))); (case k3 => assumption))); intros; (((with_reducible rename Fr _ _ _ _ => mF); (with_reducible rename News _ _ _ _ => mN); (with_reducible rename Keeps _ _ => mK); (have zF := Fr.keptAll mF mK); (have zN := News.grown mN mK); clear mN mF mK; (try dsimp only); (try k_fold)))))
set_option pp.deepTerms false
set_option pp.maxSteps 1500
theorem c_modes {g : Heap} {D C : Addr} {oD oC : Obj} (hh : A.handled = none) (B : Below A base outer g) (XB : (hd.heap_39 w.params).In base) (TB : Top hd.view_39 LO mean mg mb base) (hdp : A.depth + 160 < recursionLimit) (hun : A.units + 480 < cLine)
    (G : Led g s.heap [(D, oD), (C, oC)]) (dk : Deck w C oD oC) (hlt : @LT.lt Nat _ D C) (hlo : (D == sysModules) = false)
    (hQ : ∀ h' tk', KeepsU outer g h' → Q (.bool true) { s with heap := h', toks := tk' }) :
    wpAny (model PySem.Challenge.rw_pb0094_01.row.prog w) A (call (.ref 217) [.ref D]) Q E s := by
  have mark0 := @Mark.on "comp"
  have mark1 := @Mark.on "for"
  have mark2 := @Mark.on "ref"
  have markc := @Mark.on "call"
  have X := XB.keeps B.stays
  have T := TB.keeps B.stays
  ((((
  (with_reducible rename Frag.In _ _ => mX0); revert mX0; k_fill; intro mX1
  (with_reducible rename Below _ _ _ _ => mB0); (with_reducible rename (Around.handled _ = none) => mh0); (with_reducible rename (Around.depth _ + _ < recursionLimit) => md0); (with_reducible rename (Around.units _ + _ < cLine) => mu0)
  first | refine m_open mh0 mB0 md0 mu0 ?_ | refine s_open mh0 mB0 md0 mu0 ?_
  clear mh0 mB0 md0 mu0
  intro zdp zun zgd mB1 md1 mu1)); (first
  | (refine' enterP ?s1x47x48 ?s2x47x48 ?s3x47x48 ?s4x47x48 ?s5x47x48 ?s6x47x48 ?s7x47x48 ?s8x47x48 ?s9x47x48 ?_ ?s11x47x48 ?s12x47x48 ?s13x47x48 ?s14x47x48; (((case s1x47x48 => k_asm); (case s2x47x48 => k_asm); (case s3x47x48 => k_asm); (case s4x47x48 => first | assumption | exact Led.refl _); (case s5x47x48 => k_is); (case s6x47x48 => k_is); (case s7x47x48 => walk_at "m_rd"); (case s8x47x48 => first | exact BindsTo.of_eq rfl | exact binds_K (by k_in) rfl (by k_is) rfl rfl rfl); (case s9x47x48 => first | exact rfl | exact locs rfl); (try (case s10x47x48 => first | exact rfl | decide +kernel)); (case s11x47x48 => exact rfl); (case s12x47x48 => exact rfl); (case s13x47x48 => exact rfl))); (case s14x47x48 => decide); k_whole; intro zL zh zF zN; (try dsimp only); (try k_fold))
  | (refine' enterC ?s1x47x48 ?s2x47x48 ?s3x47x48 ?s4x47x48 ?s5x47x48 ?s6x47x48 ?s7x47x48 ?s8x47x48 ?s9x47x48 ?s10x47x48 ?_ ?s11x47x48 ?s12x47x48 ?s13x47x48; (((case s1x47x48 => k_asm); (case s2x47x48 => k_asm); (case s3x47x48 => k_asm); (case s4x47x48 => first | assumption | exact Led.refl _); (case s5x47x48 => k_is); (case s6x47x48 => k_is); (case s7x47x48 => walk_at "m_rd"); (case s8x47x48 => first | exact BindsTo.of_eq rfl | exact binds_K (by k_in) rfl (by k_is) rfl rfl rfl); (case s9x47x48 => first | exact rfl | exact locs rfl); (try (case s10x47x48 => first | exact rfl | decide +kernel)); (case s11x47x48 => exact rfl); (case s12x47x48 => exact rfl); (case s13x47x48 => exact rfl))); k_whole; intro zL zh ztk zcells zF zN zY zl; (try k_lt zl); k_cells zY; (try simp only [List.cons_append, List.nil_append] at zN); (try dsimp only); (try k_fold)))))
  refine joinTwoA (Str.ofString "mode") (Str.ofString "figures") (fun u v => ∃ m t t', Modes m ∧ u = .int m t ∧ v = .bytes #[] t') (by k_asm) ?_ ?_
  · (repeat' (first | (k_unfold; (try dsimp only)) | walk1 | (k_unmd; k_unfold; (try dsimp only)) | (dsimp only; first | (k_unfold; (try dsimp only)) | walk1)))
    exact ⟨rfl, _, _, ⟨_, _, _, modes_at (by assumption) (by assumption), rfl, rfl⟩, by k_asm, _, _, rfl⟩
  rename Fr _ _ _ _ => F0
  rename News _ _ _ _ => N0
  intro u v h1 tk1 ⟨m, tm, tb, hm, hu, hv⟩ F1
  subst hu hv
  clear dk G F0 N0
  have N1 := nil_of F1
  (repeat' (first | (k_unfold; (try dsimp only)) | walk1 | (k_unmd; k_unfold; (try dsimp only)) | (dsimp only; first | (k_unfold; (try dsimp only)) | walk1)))
  rename Fr _ _ _ _ => F2
  rename News _ _ _ _ => N2
  rename IsRange _ _ _ _ _ _ _ _ => hr2
  unfold Hold
  have ho6 : (octDigits m).length = 6 := rfl
  refine iterRF (n := 6) (Str.ofString "figures") [Str.ofString "k"] (fun i b nx => KBw.bInts b = (octDigits m).take i ∧ nx = []) hr2 (by decide) (by decide) rfl F2 N2 (by rfl) ⟨rfl, rfl⟩ ?_ ?_
  · rintro i t b1 tb1 u nx h tk own hi ho hadr ⟨hb1, rfl⟩ F4 N4
    clear F2 N2 hr2
    simp only [List.nil_append] at N4
    rw [locP] at F4 N4
    have hl1 : ((octDigits m).take i).length ≤ 6 := by rw [List.length_take]; omega
    have hk0 : 0 ≤ 5 + (i : Int) * -1 := by omega
    have hk1 : 5 + (i : Int) * -1 ≤ 5 := by omega
    have hdig := oct_at (m := m) hi
    generalize 5 + (i : Int) * -1 = kv at F4 hk0 hk1 hdig
    have hpw := (pw_facts hk0 hk1).2.2
    have hq0 := fmod_lo (m.fdiv (8 ^ kv.toNat)) (n := 8) (by decide)
    have hq1 := fmod_hi (m.fdiv (8 ^ kv.toNat)) (n := 8) (by decide)
    (repeat' (first | (k_unfold; (try dsimp only)) | walk1 | (k_unmd; k_unfold; (try dsimp only)) | (dsimp only; first | (k_unfold; (try dsimp only)) | walk1)))
    refine floordiv_int hpw.1 ?_ (Or.inl (PyProof.noPylong_of_log2 hpw.2))
    (repeat' (first | (k_unfold; (try dsimp only)) | walk1 | (k_unmd; k_unfold; (try dsimp only)) | (dsimp only; first | (k_unfold; (try dsimp only)) | walk1)))
    rename KBw.bInts (b1 ++ _) = _ => ka
    exact inv_endF (nx := []) ⟨oct_take ka hdig, rfl⟩ (by k_asm) (by k_asm) (fun p hp => nomatch hp) (by ((intro p hp; first | exact absurd hp List.not_mem_nil | (simp [hp]; done) | (simp only [List.mem_append, List.mem_cons, List.not_mem_nil, or_false, false_or] at *; simp_all)))) (by rfl) (by rfl) (by ((intros; (try simp only [List.mem_cons, List.not_mem_nil, or_false, not_or] at *); first | rfl | simp_all)))
  · rintro b1 tb1 u nx h tk ⟨hb1, rfl⟩ F4 N4
    clear F2 N2 hr2
    rw [locP] at F4 N4
    have hb6 : KBw.bInts b1 = octDigits m := hb1
    have hm6 := mode_of hm
    have hl6 : (octDigits m).length ≤ 4096 := by rw [ho6]; decide
    (repeat' (first | (k_unfold; (try dsimp only)) | walk1 | (k_unmd; k_unfold; (try dsimp only)) | (dsimp only; first | (k_unfold; (try dsimp only)) | walk1)))
    · exfalso
      rename (_ != Array.toList b1) = true => q
      rename KBw.bInts _ = octDigits m => eb
      rw [bints_eq (eb.trans hb6.symm)] at q
      simp at q
    · exact absurd rfl ‹m ≠ m›
    unfold Hold
    (rename Fr _ _ _ _ => F1); (rename Below _ _ _ _ => B1)
    refine compWT (F₀ := veil_F (outer := outer) F1) (by with_unfolding_all rfl) (by decide) (by rfl) (by decide) (by rfl) ?_
    (repeat' (first | (k_unfold; (try dsimp only)) | walk1 | (k_unmd; k_unfold; (try dsimp only)) | (dsimp only; first | (k_unfold; (try dsimp only)) | walk1)))
    unfold Hold
    (rename Fr _ _ _ _ => F4); (rename News _ _ _ _ => N5)
    have hoff := veil_off B1 N5
    obtain ⟨fr, V, Nf⟩ := veil_in B1 F4
    have X0 := veil_X B1 XB
    have T0 := veil_T B1 TB
    refine iterCTT rfl ⟨_, rfl⟩ (Nat.le_of_ble_eq_true rfl) rfl (veil_F F4) (news_both (veil_N N5) Nf) (List.mem_append_left _ List.mem_cons_self) fun gg => restV List.mem_cons_self ?turn ?fin V
    case turn =>
      clear F4 N5 Nf V
      intro v I oI C' oC' D' m₂ h tk fr E' hv hC hx V F N off ne
      have hq : ∃ b t, v = .bytes b t ∧ modeOf (KBw.bInts b) = none ∧ (KBw.bInts b).length ≤ 100 := by
        have hv' : v ∈ [Value.bytes #[] _, .bytes #[49, 48, 48, 54, 52, 56] _, .bytes #[49, 48, 48, 54, 52, 120] _, .bytes #[49, 48, 48, 54, 32, 52] _] := hv
        simp only [List.mem_cons, List.not_mem_nil, or_false] at hv'
        rcases hv' with rfl | rfl | rfl | rfl
        · exact ⟨_, _, rfl, mode_b.1, by decide⟩
        · exact ⟨_, _, rfl, mode_b.2.1, by decide⟩
        · exact ⟨_, _, rfl, mode_b.2.2.1, by decide⟩
        · exact ⟨_, _, rfl, mode_b.2.2.2, by decide⟩
      obtain ⟨bv, tv, rfl, hbn, hbl⟩ := hq
      (repeat' (first | (k_unfold; (try dsimp only)) | walk1 | (k_unmd; k_unfold; (try dsimp only)) | (dsimp only; first | (k_unfold; (try dsimp only)) | walk1)))
      unfold Hold
      refine c_hmode w rfl (veil_B B1 V F N (fun p hp => List.mem_cons_of_mem _ (List.mem_cons_of_mem _ (List.mem_cons_of_mem _ (List.mem_append_right _ hp)))) rfl rfl) XB TB (by walk_at "m_rd") (by walk_at "m_ru") rfl (by omega) ?_ ?_
      · intro n t2 h2 hr
        rw [hbn] at hr; cases hr
      · intro h2 _ hU tk2
        obtain ⟨fr', V', F', N'⟩ := veil_turn V F N off hoff rfl hU
        clear F N off V
        (repeat' (first | (k_unfold; (try dsimp only)) | walk1 | (k_unmd; k_unfold; (try dsimp only)) | (dsimp only; first | (k_unfold; (try dsimp only)) | walk1)))
        exact ⟨rfl, _, _, fr', rfl, V', F', N'⟩
    case fin =>
      intro fr V D' h tk F N o1
      (repeat' (first | (k_unfold; (try dsimp only)) | walk1 | (k_unmd; k_unfold; (try dsimp only)) | (dsimp only; first | (k_unfold; (try dsimp only)) | walk1)))
      rename Fr _ _ _ _ => F6
      rename News _ _ _ _ => N6
      exact hQ _ _ (veil_out B1 V F6 N6 (fun p hp => List.mem_cons_of_mem _ (List.mem_cons_of_mem _ (List.mem_append_right _ hp))))
end

section
variable {M : Model} {A : Around} {E : Value → Shared → Prop} {s : Shared} {env : Env}
theorem wpS_isNot {x : Expr} {pos : Pos} {whole : Sem Value} {Q : Bool → Shared → Prop} (h : wpS M A (isTrue x env (eval x env)) (fun c s' => Q (!c) s') E s) :
    wpS M A (isTrue (.UnaryOp .Not x pos) env whole) Q E s := by
  show wpS M A (do return !(← isTrue x env (eval x env))) Q E s
  exact wpS_bind (wpS_mono h (fun c s' h' => wpS_pure h') fun _ _ x => x)
theorem wpS_isOrNil {pos : Pos} {whole : Sem Value} {Q : Bool → Shared → Prop} (h : Q false s) : wpS M A (isTrue (.BoolOp .Or [] pos) env whole) Q E s := wpS_pure (a := false) h
theorem wpS_isOr {x : Expr} {rest : List Expr} {pos : Pos} {whole : Sem Value} {Q : Bool → Shared → Prop}
    (h : wpS M A (isTrue x env (eval x env)) (fun c s' => if c then Q true s' else wpS M A (isTrue (.BoolOp .Or rest pos) env whole) Q E s') E s) :
    wpS M A (isTrue (.BoolOp .Or (x :: rest) pos) env whole) Q E s := by
  show wpS M A (do
    match BoolOp.Or, ← isTrue x env (eval x env) with
    | .And, false => pure false
    | .Or, true => pure true
    | _, _ => allTrue .Or rest env) Q E s
  refine wpS_bind (wpS_mono h (fun c s' h' => ?_) fun _ _ x => x)
  cases c with
  | false => exact h'
  | true => exact wpS_pure h'
theorem wpS_isCmp {l r : Expr} {op : CmpOp} {pos : Pos} {whole : Sem Value} {Q : Bool → Shared → Prop}
    (h : wpS M A (eval l env) (fun a s₁ => wpAny M A (eval r env) (fun b s₂ => wpAny M A (compareOp op a b) (fun c s₃ => wpAny M A (truthy c) Q E s₃) E s₂) E s₁) E s)
    (hm : behindInMarks op r = false := by with_unfolding_all rfl) : wpS M A (isTrue (.Compare l [op] [r] pos) env whole) Q E s := by
  rw [isTrue_Compare1, markedBehindIn_of_false hm]
  refine wpS_bind (wpS_mono h (fun a s₁ h₁ => wpS_any ?_) fun _ _ x => x)
  refine wpAny_bind (wpAny_holding (wpAny_mono h₁ (fun b s₂ h₂ => wpAny_bind (wpAny_standAt (wpAny_bind (fun Γ p hΓ => ?_)))) fun _ _ x => x))
  rw [Sem.wp_operate]
  exact Sem.wp_mono M Γ _ (fun c p₃ s₃ h₃ => wpAny_holding h₃) (fun _ _ _ h' => h') _ _ (h₂ Γ p hΓ)
theorem wpS_isPlain {e : Expr} {whole : Sem Value} {Q : Bool → Shared → Prop} (h : wpS M A whole (fun v s₁ => wpAny M A (truthy v) Q E s₁) E s)
    (he : isTrue e env whole = (do let v ← whole; standAt e.pos; holding [v] (truthy v)) := by rfl) : wpS M A (isTrue e env whole) Q E s := by
  rw [he]
  exact wpS_bind (wpS_mono h (fun v s₁ h₁ => wpS_any (wpAny_bind (wpAny_standAt (wpAny_holding h₁)))) fun _ _ x => x)
end
section
variable {prog : Program} {w : World} {A : Around} {s : Shared} {base g : Heap} {outer : List Env} {news : List (Addr × Obj)} {K : Frag} {p : Program} {loose : List Str} {mean : ExcName → Option Value} {mg mb : Str → Option Value}
  {name qual : Str} {params : Arguments} {body : List Stmt} {scope : Scope} {dV kV doc pm cdv ct oc : Value} {an od : Option Addr} {osl : Array (Option Value)} {f : Addr} {vals : List Value} {binds : List (Str × Value)} {Q E : Value → Shared → Prop}
theorem enterSC (B : Below A base outer g) (X : K.In g) (T : Top p loose mean mg mb g) (G : Led g s.heap news)
    (ho : K.lookup f = some ⟨oc, od, .func (fnOf name qual params body scope dV kV doc pm an cdv ct), osl⟩) (hcd : codeIn K cdv qual = true) (hroom : A.depth < recursionLimit)
    (hbind : BindsTo s (fnOf name qual params body scope dV kV doc pm an cdv ct) ⟨vals, []⟩ binds) (hkind : (binds.all fun y => scope.names.lookup y.1 == some .local || scope.names.lookup y.1 == some .cell) = true)
    (hnd : ((cellsFrom 0 scope.names []).map (·.1)).Nodup)
    (h : ∀ L' h₁ tk cells, Fr g L' h₁ (bindL (envOfC qual scope L' f cdv).kindOf binds fun _ => none) → News g L' h₁ (cells ++ news) →
      CellsAre (bindC (envOfC qual scope L' f cdv).kindOf binds fun _ => none) (cellsFrom (L' + 1) scope.names []) cells → (∀ p ∈ news, p.1 < L') →
      wpS (model prog w) (A.deeper (envOfC qual scope L' f cdv)) (execs body (envOfC qual scope L' f cdv))
        (fun fl s' => Q (match fl with | .ret v => v | _ => .none) s')
        (fun e s' => wpAny (model prog w) (A.deeper (envOfC qual scope L' f cdv)) (leaving (envOfC qual scope L' f cdv) e) (fun _ s'' => E e s'') (fun e' s'' => E e' s'') s')
        { s with heap := h₁, toks := tk })
    (hco : scope.isCoroutine = false) (hgen : scope.isGenerator = false) (hk : scope.kind = .function) : wpS (model prog w) A (call (.ref f) vals) Q E s := by
  have _ := B.stack
  refine wpS_call (codeS_call_function hroom (G.1 _ _ (X _ _ ho)) rfl hco hgen rfl (codeRec_of (X.keeps G.1) hcd) (hbind _ _ _ _ ?_))
  refine wpAny_newFunctionEnv_cells hk (kindsX hkind _) fun env' he s' x => ?_
  subst he
  refine ⟨(T.nolimit.keeps G.1).keeps x.toInCall.keep, codeS_func ?_⟩
  obtain ⟨h₁, tk, rfl, _⟩ := x.done
  have hk₁ := x.toInCall.keep
  obtain ⟨cells, NC, Y⟩ := Cl.news (h₀ := s.heap) (Nat.le_refl _) fun n c hm => ⟨x.cell n c (lookup_of_mem_nodup (cellsFrom_names scope.names 0 (s.heap.objs.size + 1) [] [] rfl ▸ hnd) hm), x.above n c hm⟩
  refine h _ h₁ tk cells ⟨x.toInCall.ns, fun b o e => hk₁ b o (G.1 _ _ e), G.2.1⟩ (fun q hq => ?_) Y (fun q hq => Heap.lt_size (G.2.2 q hq).1)
  rcases List.mem_append.mp hq with hq | hq
  · refine ⟨(NC q hq).1, (NC q hq).2.1, ?_⟩
    cases hg : g.get? q.1 with
    | none => rfl
    | some o => have := G.1 _ _ hg; rw [(NC q hq).2.2] at this; cases this
  · exact ⟨hk₁ _ _ (G.2.2 q hq).1, Nat.ne_of_lt (Heap.lt_size (G.2.2 q hq).1), (G.2.2 q hq).2⟩
end

theorem sign_back {n : Nat} (h0 : 1 ≤ n) (h1 : n ≤ 52) : manyOf (sign1 n) = (n : Int) := by
  unfold manyOf sign1
  split <;> split <;> (try split) <;> omega
theorem body_first (ks : List Int) : ∀ i, firstOf (rowBody ks i) = sign1 ks.length
  | 0 => rfl
  | i + 1 => by
    have h := body_first ks i
    have hl := rowBody_length ks i
    show firstOf (rowBody ks i ++ group5 (num (four ks i))) = _
    cases hb : rowBody ks i with
    | nil => rw [hb] at hl; simp at hl; omega
    | cons x r => rw [hb] at h; exact h
theorem body_prefix (ks : List Int) (i : Nat) : ∀ n, i ≤ n → ∃ r, rowBody ks n = rowBody ks i ++ r
  | 0, h => ⟨[], by rw [Nat.le_zero.mp h, List.append_nil]⟩
  | n + 1, h => by
    rcases Nat.lt_or_ge i (n + 1) with q | q
    · obtain ⟨r, hr⟩ := body_prefix ks i n (by omega)
      exact ⟨r ++ group5 (num (four ks n)), by rw [rowBody, hr, List.append_assoc]⟩
    · exact ⟨[], by rw [show i = n + 1 by omega, List.append_nil]⟩
theorem body_grp {ks : List Int} {i n : Nat} (h : i < n) : grp (rowBody ks n) i = group5 (num (four ks i)) := by
  obtain ⟨r, hr⟩ := body_prefix ks (i + 1) n h
  unfold grp
  rw [hr, rowBody, List.append_assoc, ← rowBody_length ks i, List.drop_left]
  exact List.take_left' (show (group5 _).length = 5 from rfl)
theorem place_sgn (x : Int) : placeI signsI (sgn x) = x.fmod 85 := by
  have h0 := fmod_lo x (n := 85) (by decide)
  have h1 := fmod_hi x (n := 85) (by decide)
  have h := (by decide +kernel : ∀ j : Fin 85, placeI signsI (((signs85.getD j.val 0).toNat : Nat) : Int) = ((j.val : Nat) : Int)) ⟨(x.fmod 85).toNat, by omega⟩
  exact h.trans (Int.toNat_of_nonneg h0)
theorem group_back {x : Int} (h0 : 0 ≤ x) (h1 : x < 4294967296) : num85 0 (group5 x) = some x := by
  unfold group5
  simp only [num85, place_sgn]
  rw [if_pos (fmod_lo _ (by decide)), if_pos (fmod_lo _ (by decide)), if_pos (fmod_lo _ (by decide)), if_pos (fmod_lo _ (by decide)), if_pos (fmod_lo _ (by decide))]
  simp only [Int.fdiv_eq_ediv_of_nonneg _ (by decide : (0 : Int) ≤ 85), Int.fmod_eq_emod_of_nonneg _ (by decide : (0 : Int) ≤ 85)]
  congr 1
  omega
theorem four_in {ks : List Int} {i : Nat} (h : KBa.In ks) : ∀ k ∈ four ks i, 0 ≤ k ∧ k < 256 := by
  intro k hk
  unfold four at hk
  have hk := List.mem_of_mem_take hk
  rcases List.mem_append.mp hk with hk | hk
  · exact h k (List.mem_of_mem_drop (List.mem_of_mem_take hk))
  · simp only [List.mem_cons, List.not_mem_nil, or_false, or_self] at hk
    omega
theorem be4_num {l : List Int} (hl : l.length = 4) (h : ∀ k ∈ l, 0 ≤ k ∧ k < 256) : be4 (num l) = l := by
  match l, hl with
  | [a, b, c, d], _ =>
    have h1 := h a (by simp); have h2 := h b (by simp); have h3 := h c (by simp); have h4 := h d (by simp)
    simp only [num, List.foldl, be4]
    congr 1
    · omega
    congr 1
    · omega
    congr 1
    · omega
    congr 1
    omega
theorem body_read {ks : List Int} (hin : KBa.In ks) {n : Nat} (hn : n = (ks.length + 3) / 4) : ∀ i, i ≤ n → readG (rowBody ks n) i = some ((filled ks).take (4 * i))
  | 0, _ => by simp only [readG, Nat.mul_zero, List.take_zero]
  | i + 1, h => by
    have hl : 4 * i < ks.length := by omega
    have hf := four_in (i := i) hin
    have hnb := num_in (four_length hl) hf
    simp only [readG, body_read hin hn i (by omega), body_grp (ks := ks) (i := i) (n := n) (by omega), group_back hnb.1 hnb.2]
    rw [if_neg (by omega), be4_num (four_length hl) hf, ← filled_four hl, ← List.take_add]
    rfl
theorem read_row {ks : List Int} (hin : KBa.In ks) (h0 : 1 ≤ ks.length) (h1 : ks.length ≤ 52) : readOf (rowBody ks ((ks.length + 3) / 4)) = some ks := by
  have hl := rowBody_length ks ((ks.length + 3) / 4)
  unfold readOf
  rw [body_first, sign_back h0 h1, if_neg (by intro q; rcases q with q | q <;> omega), hl, show (1 + 5 * ((ks.length + 3) / 4) - 1) / 5 = (ks.length + 3) / 4 by omega, body_read hin rfl _ (Nat.le_refl _)]
  have hfl := filled_length ks
  rw [List.take_of_length_le (by omega)]
  show some (List.take ks.length (filled ks)) = some ks
  congr 1
  unfold filled
  exact List.take_left

theorem turned0 {g h h' : Heap} {L : Addr} {m : Str → Option Value} {env : Env} {news : List (Addr × Obj)} (K : Below A base [] g) (F : Fr g L h m) (N : News g L h news) (hf : env.frame = some L) (U : KeepsU [env] h h') : Fr g L h' m ∧ News g L h' news := by
  obtain ⟨g', T, F', N', _⟩ := turned K F N hf U
  refine ⟨⟨F'.ns, fun b o e => F'.keep b o (T.other b o e (fun q => nomatch q)), F.above⟩, fun p hp => ⟨(N' p hp).1, (N' p hp).2.1, (N p hp).2.2⟩⟩
theorem news_new {g h h' : Heap} {L D : Addr} {m : Str → Option Value} {o : Obj} {news : List (Addr × Obj)} (F : Fr g L h m) (N : News g L h' news) (h0 : h.get? D = none) (h1 : h'.get? D = some o) : News g L h' ((D, o) :: news) := fun p hp => by
  rcases List.mem_cons.mp hp with rfl | hp
  · refine ⟨h1, fun q => ?_, kts_none F.keep h0⟩
    obtain ⟨oL, _, _, hL, _⟩ := F.ns
    rw [show D = L from q, hL] at h0; cases h0
  · exact N p hp
theorem news_apart {g h : Heap} {L D : Addr} {news : List (Addr × Obj)} {p : Addr × Obj} (N : News g L h news) (hp : p ∈ news) (h0 : h.get? D = none) : @Ne Nat p.1 D := fun q => by
  have e : p.1 = D := q
  rw [← e, (N p hp).1] at h0; cases h0
theorem size1 (n : Nat) : Builtin.Range.rangeSize 0 (n : Int) 1 = (n : Int) := by
  unfold Builtin.Range.rangeSize
  simp
  omega
theorem small1 {n : Nat} (h : n ≤ 52) : Builtin.Range.small 0 (n : Int) 1 = true :=
  (by decide +kernel : ∀ m : Fin 53, Builtin.Range.small 0 ((m.val : Nat) : Int) 1 = true) ⟨n, by omega⟩
theorem in_snoc {ks : List Int} {v : Int} (h : KBa.In ks) (h0 : 0 ≤ v) (h1 : v < 256) : KBa.In (ks ++ [v]) := fun k hk => by
  rcases List.mem_append.mp hk with hk | hk
  · exact h k hk
  · rw [List.mem_singleton.mp hk]; exact ⟨h0, h1⟩
/-- between the turns of a comprehension that draws -/
noncomputable def DrawJ (w : World) (D C c : Addr) (i : Nat) (ys : List Value) (nw : List (Addr × Obj)) : Prop :=
  ∃ oD oC oc ks, nw = [(D, oD), (C, oC), (c, oc)] ∧ Deck w C oD oC ∧ oc.data = .cell (some (.ref D)) ∧ IntsAre ys ks ∧ ks.length = i ∧ KBa.In ks
theorem two_in {v : Int} (h0 : 4 ≤ v) (h1 : v < 6) : KBa.In [([0, 255] : List Int).getD (v - 4).toNat 0] := by
  have h : v = 4 ∨ v = 5 := by omega
  intro k hk
  rw [List.mem_singleton.mp hk]
  rcases h with rfl | rfl <;> decide
theorem wpS_nil {prog : Program} {A : Around} {E : Value → Shared → Prop} {s : Shared} {env : Env} {Q : Flow → Shared → Prop} (h : Q .next s) : wpS (model prog w) A (execs [] env) Q E s := wpS_any (wpAny_execs_nil h)
section
variable {prog : Program} {w : World} {A : Around} {E : Value → Shared → Prop} {s : Shared} {env : Env} {g : Heap} {L : Addr} {m : Str → Option Value} {news : List (Addr × Obj)}
/-- an argument that is bytes -/
noncomputable def OneBytes (g : Heap) (L : Addr) (m : Str → Option Value) (news : List (Addr × Obj)) (s : Shared) (vs : List Value) (s₁ : Shared) : Prop :=
  ∃ b t, vs = [.bytes b t] ∧ (KBw.bInts b).length ≤ 4096 ∧ Fr g L s₁.heap m ∧ News g L s₁.heap news ∧ Onward s s₁
theorem wpS_callB {K : Frag} {pos : Pos} {f : Value} {e : Expr} {Q : Value → Shared → Prop} (hk : keepIn K f = true) (X : K.In g) (F : Fr g L s.heap m) (N : News g L s.heap news)
    (h : wpAny (model prog w) A (spliced (backTo pos (starEach [e] env))) (OneBytes g L m news s) E s)
    (hc : ∀ b t h tk, (KBw.bInts b).length ≤ 4096 → Fr g L h m → News g L h news → wpS (model prog w) A (call f [.bytes b t]) Q E { s with heap := h, toks := tk })
    (he : starEach [e] env = [(false, eval e env)] := by rfl) : wpS (model prog w) A (callWith pos f [] (backTo pos (starEach [e] env)) []) Q E s :=
  wpS_callK hk (wpAny_mono h (fun _ _ q => by obtain ⟨b, t, e1, e2, e3, e4, h, tk, e5⟩ := q; subst e1; subst e5; exact ⟨X.keeps e3.keep, hc b t h tk e2 e3 e4⟩) fun _ _ e => e) he (by rfl)
end
theorem len_of {b : Array UInt8} {ks : List Int} (h : KBw.bInts b = ks) (hk : ks.length ≤ 4096) : (KBw.bInts b).length ≤ 4096 := by rw [h]; exact hk
theorem size1' {v : Int} (h : 0 ≤ v) : Builtin.Range.rangeSize 0 v 1 = (v.toNat : Int) := by
  obtain ⟨n, rfl⟩ := Int.eq_ofNat_of_zero_le h
  exact size1 n
theorem small1' {v : Int} (h : 0 ≤ v) (h1 : v < 53) : Builtin.Range.small 0 v 1 = true := by
  obtain ⟨n, rfl⟩ := Int.eq_ofNat_of_zero_le h
  exact small1 (by omega)
theorem signs_in : ∀ k ∈ signsI, 0 ≤ k ∧ k < 256 := by decide
theorem turnedD {g h h' : Heap} {L D C : Addr} {m : Str → Option Value} {env : Env} {news : List (Addr × Obj)} {oD oC : Obj} (F : Fr g L h m) (N : News g L h news) (hD : (D, oD) ∈ news) (hC : (C, oC) ∈ news) (hf : env.frame = some L)
    (U : KeepsU [env] (hideAll h [D, C]) h') : Fr g L h' m ∧ ∀ p ∈ news, p.1 ≠ D → p.1 ≠ C → h'.get? p.1 = some p.2 := by
  obtain ⟨g₁, T₁, k₁⟩ := U
  have hmem : ∀ b, b ∈ frs [env] → b = L := fun b hb => by
    rw [show frs [env] = [L] from by simp [frs, hf]] at hb
    exact List.mem_singleton.mp hb
  have hd : ∀ b o, b ≠ D → b ≠ C → h.get? b = some o → (hideAll h [D, C]).get? b = some o := fun b o e1 e2 e3 => hideAll_get _ e3 (by
    intro q
    rcases List.mem_cons.mp q with q | q
    · exact e1 q
    · exact e2 (List.mem_singleton.mp q))
  have at1 : ∀ b o, b ≠ D → b ≠ C → b ≠ L → h.get? b = some o → h'.get? b = some o := fun b o e1 e2 e3 e4 => k₁ _ _ (T₁.other _ _ (hd b o e1 e2 e4) fun hm => e3 (hmem b hm))
  refine ⟨⟨?_, fun b o e => at1 b o (fun q => by rw [q, (N _ hD).2.2] at e; cases e) (fun q => by rw [q, (N _ hC).2.2] at e; cases e) (fun q => by rw [q, kts_self F] at e; cases e) (F.keep b o e), F.above⟩, fun p hp e1 e2 => at1 _ _ e1 e2 (N p hp).2.1 (N p hp).1⟩
  obtain ⟨oL, es, ep, hL, hLd, hLk, hLf⟩ := F.ns
  obtain ⟨sl, q⟩ := T₁.up (hd L oL (fun q => (N _ hD).2.1 q.symm) (fun q => (N _ hC).2.1 q.symm) hL)
  exact ⟨_, es, ep, k₁ _ _ q, hLd, hLk, hLf⟩
theorem c_rangesK {A₀ : Around} {env : Env} {g : Heap} {L D C c : Addr} {m : Str → Option Value} {oD oC oc : Obj} (B : Below A₀ base [] g) (XB : (hd.heap_39 w.params).In base) (TB : Top hd.view_39 LO mean mg mb base) (F : Fr g L s.heap m) (N : News g L s.heap [(D, oD), (C, oC), (c, oc)])
    (dk : Deck w C oD oC) (hlt : @LT.lt Nat _ D C) (hlo : (D == sysModules) = false) (hcD : @Ne Nat c D) (hcC : @Ne Nat c C) (hh : (A₀.deeper env).handled = none) (hdp : (A₀.deeper env).depth + 160 < recursionLimit) (hun : (A₀.deeper env).units + 480 < cLine) (hf : env.frame = some L) (hk : env.scope.kind = .function)
    (hQ : ∀ oD' oC' h' tk', Deck w C oD' oC' → Fr g L h' m → News g L h' [(D, oD'), (C, oC'), (c, oc)] → Q (.bool true) { s with heap := h', toks := tk' }) :
    wpAny (model PySem.Challenge.rw_pb0094_01.row.prog w) (A₀.deeper env) (call (.ref 212) [.ref D]) Q E s := by
  obtain ⟨B8, G8, _, _⟩ := draw_ground (oD := oD) (oC := oC) B F N (by k_mem) (by k_mem) hf hk
  refine c_ranges w hh B8 XB TB hdp hun G8 dk hlt hlo ?_
  intro oD' oC' h' tk' dk' hU hD hC
  obtain ⟨F', N'⟩ := turnedD (oD := oD) (oC := oC) F N (by k_mem) (by k_mem) hf hU
  refine hQ oD' oC' h' tk' dk' F' fun p hp => ?_
  rcases List.mem_cons.mp hp with rfl | hp
  · exact ⟨hD, (N (D, oD) (by k_mem)).2⟩
  rcases List.mem_cons.mp hp with rfl | hp
  · exact ⟨hC, (N (C, oC) (by k_mem)).2⟩
  · rw [List.mem_singleton.mp hp]
    exact ⟨N' (c, oc) (by k_mem) hcD hcC, (N (c, oc) (by k_mem)).2⟩
theorem c_modesK {A₀ : Around} {env : Env} {g : Heap} {L D C c : Addr} {m : Str → Option Value} {oD oC oc : Obj} (B : Below A₀ base [] g) (XB : (hd.heap_39 w.params).In base) (TB : Top hd.view_39 LO mean mg mb base) (F : Fr g L s.heap m) (N : News g L s.heap [(D, oD), (C, oC), (c, oc)])
    (dk : Deck w C oD oC) (hlt : @LT.lt Nat _ D C) (hlo : (D == sysModules) = false) (hh : (A₀.deeper env).handled = none) (hdp : (A₀.deeper env).depth + 160 < recursionLimit) (hun : (A₀.deeper env).units + 480 < cLine) (hf : env.frame = some L) (hk : env.scope.kind = .function)
    (hQ : ∀ h' tk', Fr g L h' m → Q (.bool true) { s with heap := h', toks := tk' }) :
    wpAny (model PySem.Challenge.rw_pb0094_01.row.prog w) (A₀.deeper env) (call (.ref 217) [.ref D]) Q E s := by
  obtain ⟨B8, G8, _, _⟩ := draw_ground (oD := oD) (oC := oC) B F N (by k_mem) (by k_mem) hf hk
  refine c_modes w hh B8 XB TB hdp hun G8 dk hlt hlo ?_
  intro h' tk' hU
  exact hQ h' tk' (turnedD (oD := oD) (oC := oC) F N (by k_mem) (by k_mem) hf hU).1
theorem fr_same {g h : Heap} {L : Addr} {m m' : Str → Option Value} (F : Fr g L h m) (e : ∀ z, m z = m' z) : Fr g L h m' := by
  rw [← funext e]; exact F
section
variable {prog : Program} {w : World} {A : Around} {E : Value → Shared → Prop} {s : Shared} {env : Env} {g : Heap} {L D C c : Addr} {m₀ : Str → Option Value}
/-- a statement of the law gives names what P tells; the deck is a deck -/
noncomputable def GivesL (w : World) (g : Heap) (L D C c : Addr) {σ : Type} (mm : σ → Str → Option Value) (P : σ → Prop) (s : Shared) (fl : Flow) (s₁ : Shared) : Prop :=
  fl = .next ∧ ∃ a oD oC oc, P a ∧ Deck w C oD oC ∧ oc.data = .cell (some (.ref D)) ∧ Fr g L s₁.heap (mm a) ∧ News g L s₁.heap [(D, oD), (C, oC), (c, oc)] ∧ Onward s s₁
theorem joinL {σ : Type} {st : Stmt} {rest : List Stmt} {Q : Flow → Shared → Prop} (mm : σ → Str → Option Value) (P : σ → Prop)
    (h : wpAny (model prog w) A (exec st env) (GivesL w g L D C c mm P s) E s)
    (hc : ∀ a h tk oD oC oc, P a → Deck w C oD oC → oc.data = .cell (some (.ref D)) → Fr g L h (mm a) → News g L h [(D, oD), (C, oC), (c, oc)] → wpS (model prog w) A (execs rest env) Q E { s with heap := h, toks := tk }) :
    wpS (model prog w) A (execs (st :: rest) env) Q E s :=
  wpS_plain (wpAny_mono h (fun _ _ q => by obtain ⟨e1, a, oD, oC, oc, e2, e3, e4, e5, e6, h, tk, e7⟩ := q; subst e1; subst e7; exact hc a h tk oD oC oc e2 e3 e4 e5 e6) fun _ _ e => e)
theorem givesL_mk {σ : Type} {mm : σ → Str → Option Value} {P : σ → Prop} {s₁ : Shared} {news : List (Addr × Obj)} {oD oC oc : Obj} (a : σ) (hp : P a) (dk : Deck w C oD oC) (hd : oc.data = .cell (some (.ref D))) (F : Fr g L s₁.heap (mm a)) (N : News g L s₁.heap news)
    (h1 : (D, oD) ∈ news) (h2 : (C, oC) ∈ news) (h3 : (c, oc) ∈ news) (o : Onward s s₁) : GivesL w g L D C c mm P s .next s₁ :=
  ⟨rfl, a, oD, oC, oc, hp, dk, hd, F, fun p hp => by
    rcases List.mem_cons.mp hp with rfl | hp
    · exact N _ h1
    rcases List.mem_cons.mp hp with rfl | hp
    · exact N _ h2
    · rw [List.mem_singleton.mp hp]; exact N _ h3, o⟩
end
section
set_option pp.deepTerms false
set_option pp.maxSteps 1500
theorem c_law (hh : A.handled = none) (B : Below A base [] s.heap) (XB : (hd.heap_39 w.params).In base) (TB : Top hd.view_39 LO mean mg mb base) (hdp : A.depth + 200 < recursionLimit) (hun : A.units + 600 < cLine)
    {addr : Addr} {vs : List Value} {ns : List Int} (hl : s.heap.IsList addr vs.toArray) (hi : IntsAre vs ns) (hk : ns.length ≤ 63)
    (hQ : ∀ h' tk', Keeps s.heap h' → Q (.bool true) { s with heap := h', toks := tk' }) :
    wpS (model PySem.Challenge.rw_pb0094_01.row.prog w) A (call (.ref 222) [.ref addr]) Q E s := by
  have mark0 := @Mark.on "comp"
  have mark1 := @Mark.on "ref"
  have markc := @Mark.on "call"
  have X := XB.keeps B.stays
  have T := TB.keeps B.stays
  ((
  (with_reducible rename Frag.In _ _ => mX0); revert mX0; k_fill; intro mX1
  (with_reducible rename Below _ _ _ _ => mB0); (with_reducible rename (Around.handled _ = none) => mh0); (with_reducible rename (Around.depth _ + _ < recursionLimit) => md0); (with_reducible rename (Around.units _ + _ < cLine) => mu0)
  first | refine m_open mh0 mB0 md0 mu0 ?_ | refine s_open mh0 mB0 md0 mu0 ?_
  clear mh0 mB0 md0 mu0
  intro zdp zun zgd mB1 md1 mu1))
  rename Frag.In _ _ => XH
  refine' enterSC ?s1 ?s2 ?s3 ?s4 ?s5 ?s6 ?s7 ?s8 ?s9 ?s10 ?_ ?s12 ?s13 ?s14
  case s1 => k_asm
  case s2 => k_asm
  case s3 => k_asm
  case s4 => exact Led.refl _
  case s5 => k_is
  case s6 => k_is
  case s7 => ktr_room
  case s8 => first | exact BindsTo.of_eq rfl | exact binds_K (by k_in) rfl (by k_is) rfl rfl rfl
  case s9 => exact rfl
  case s10 => decide +kernel
  case s12 => exact rfl
  case s13 => exact rfl
  case s14 => exact rfl
  intro L' h' tk' cells F' N' Y' l1
  k_cells Y'
  replace F' : Fr s.heap L' h' (fun z => if z = Str.ofString "script" then some (.ref addr) else none) := fr_same F' (fun z => by rfl)
  (try simp only [List.cons_append, List.nil_append] at N')
  (try dsimp only)
  (try k_fold)
  (((try (k_unfold; (try dsimp only))); refine wpS_plain ?_; (((try dsimp only); (try k_fold); (repeat' (first | (k_unfold; (try dsimp only)) | walk1 | (k_unmd; k_unfold; (try dsimp only)) | (dsimp only; first | (k_unfold; (try dsimp only)) | walk1)))))))
  unfold Hold
  rename Fr _ _ _ _ => F1
  rename News _ _ _ _ => N1
  refine c_deck w rfl (by walk_at "m_B") (by walk_at "m_X") (by walk_at "m_T") (by walk_at "m_rd") (by walk_at "m_ru") (hl.at (fun o e => F1.keep _ _ e)) hi hk ?_
  intro D C oD oC h2 tk2 dk hlt hlo hD0 hC0 hD hC hkp
  have F2 := F1.keptAll hkp
  have N2 := news_new F1 (news_new F1 (News.grown N1 hkp) hC0 hC) hD0 hD
  have hcD := news_apart N1 List.mem_cons_self hD0
  have hcC := news_apart N1 List.mem_cons_self hC0
  dsimp only at hcD hcC
  clear F1 N1
  (((try dsimp only); (try k_fold); (repeat' (first | (k_unfold; (try dsimp only)) | walk1 | (k_unmd; k_unfold; (try dsimp only)) | (dsimp only; first | (k_unfold; (try dsimp only)) | walk1)))))
  rename Fr _ _ _ _ => F1
  refine joinL (σ := Int × Int × Tok × Tok) (g := s.heap) (L := L') (D := D) (C := C) (c := L' + 1) (fun a z => if z = Str.ofString "many" then some (.int a.1 a.2.2.1) else if z = Str.ofString "way" then some (.int a.2.1 a.2.2.2) else if z = Str.ofString "script" then some (.ref addr) else none) (fun a => 1 ≤ a.1 ∧ a.1 ≤ 52 ∧ 0 ≤ a.2.1 ∧ a.2.1 < 6) ?_ ?_
  · (((try dsimp only); (try k_fold); (repeat' (first | (k_unfold; (try dsimp only)) | walk1 | (k_unmd; k_unfold; (try dsimp only)) | (dsimp only; first | (k_unfold; (try dsimp only)) | walk1)))))
    ((refine' givesL_mk (_, _, _, _) ?gpx49 ?gkx49 ?gdx49 ?gFx49 ?gNx49 ?g1x49 ?g2x49 ?g3x49 ⟨_, _, rfl⟩; (case gFx49 => k_asm); (case gNx49 => k_asm); (case gkx49 => assumption); (case gdx49 => assumption); (case g1x49 => k_mem); (case g2x49 => k_mem); (case g3x49 => k_mem); try dsimp only))
    omega
  clear dk hD0 hC0 hD hC hkp F1
  rename News _ _ _ _ => N1
  clear N1
  rintro ⟨many, way, tm, ty⟩ h3 tk3 oD3 oC3 oc3 ⟨hm1, hm2, hw1, hw2⟩ dk3 hd3 F3 N3
  dsimp only at F3 hm1 hm2 hw1 hw2
  refine joinL (σ := Array UInt8 × Tok) (g := s.heap) (L := L') (D := D) (C := C) (c := L' + 1) (fun a z => if z = Str.ofString "octets" then some (.bytes a.1 a.2) else if z = Str.ofString "many" then some (.int many tm) else if z = Str.ofString "way" then some (.int way ty) else if z = Str.ofString "script" then some (.ref addr) else none)
    (fun a => ((KBw.bInts a.1).length : Int) = many) ?_ ?_
  · (((try dsimp only); (try k_fold); (repeat' (first | (k_unfold; (try dsimp only)) | walk1 | (k_unmd; k_unfold; (try dsimp only)) | (dsimp only; first | (k_unfold; (try dsimp only)) | walk1)))))
    unfold Hold
    (((refine compW (F₀ := by k_asm) (by with_unfolding_all rfl) (by decide) (by rfl) (by decide) (by rfl) ?_)))
    (repeat' (first | (k_unfold; (try dsimp only)) | walk1 | (k_unmd; k_unfold; (try dsimp only)) | (dsimp only; first | (k_unfold; (try dsimp only)) | walk1)))
    rename Fr _ _ _ _ => F4
    rename News _ _ _ _ => N4
    rename IsRange _ _ _ _ _ _ _ _ => hr4
    unfold Hold
    obtain ⟨mn, rfl⟩ : ∃ mn : Nat, many = (mn : Int) := ⟨many.toNat, by omega⟩
    refine iterCR (n := mn) hr4 (small1 (by omega)) (size1 mn) (by omega) rfl F4 N4 fun gg => restJ (DrawJ w D C (L' + 1)) ?turn ?fin ⟨_, _, _, [], rfl, dk3, hd3, .nil, rfl, fun k hk => nomatch hk⟩
    case turn =>
      clear F4 N4 hr4 dk3 hd3
      rintro i ys nw v I oI Cc oCc Dd m₂ h tk E' hi ⟨tv, rfl⟩ ⟨oD5, oC5, oc5, ks, rfl, dk5, hd5, hy, hl5, hin5⟩ hCo hx F N off ne
      obtain ⟨⟨o1, o2, o3⟩, ⟨o4, o5, o6⟩, ⟨o7, o8, o9⟩, _⟩ := id off
      dsimp only at o1 o2 o3 o4 o5 o6 o7 o8 o9
      (repeat' (first | (k_unfold; (try dsimp only)) | walk1 | (k_unmd; k_unfold; (try dsimp only)) | (dsimp only; first | (k_unfold; (try dsimp only)) | walk1)))
      exact ⟨_, _, _, _, rfl, by assumption, hd5, IntsAre.append hy (.cons _ _ .nil), by rw [List.length_append, hl5]; rfl, in_snoc hin5 (by assumption) (by assumption)⟩
    case fin =>
      clear F4 N4 hr4 dk3 hd3
      rintro ys nw ⟨oD5, oC5, oc5, ks, rfl, dk5, hd5, hy, hl5, hin5⟩ D' h tk F N o1
      (repeat' (first | (k_unfold; (try dsimp only)) | walk1 | (k_unmd; k_unfold; (try dsimp only)) | (dsimp only; first | (k_unfold; (try dsimp only)) | walk1)))
      ((refine' givesL_mk (_, _) ?gpx50 ?gkx50 ?gdx50 ?gFx50 ?gNx50 ?g1x50 ?g2x50 ?g3x50 ⟨_, _, rfl⟩; (case gFx50 => k_asm); (case gNx50 => k_asm); (case gkx50 => assumption); (case gdx50 => assumption); (case g1x50 => k_mem); (case g2x50 => k_mem); (case g3x50 => k_mem); try dsimp only))
      rw [KBa.ints_make hin5, hl5]
  rintro ⟨b4, t4⟩ h4 tk4 oD4 oC4 oc4 hb4 dk4 hd4 F4 N4
  clear F3 N3 dk3 hd3
  dsimp only at hb4 F4
  obtain ⟨mn, rfl⟩ : ∃ mn : Nat, many = (mn : Int) := ⟨many.toNat, by omega⟩
  have hk4 : KBw.bInts b4 = KBw.bInts b4 := rfl
  refine joinL (σ := Array UInt8 × Tok) (g := s.heap) (L := L') (D := D) (C := C) (c := L' + 1) (fun a z => if z = Str.ofString "octets" then some (.bytes a.1 a.2) else if z = Str.ofString "octets" then some (.bytes b4 t4) else if z = Str.ofString "many" then some (.int mn tm) else if z = Str.ofString "way" then some (.int way ty) else if z = Str.ofString "script" then some (.ref addr) else none)
    (fun a => ((KBw.bInts a.1).length : Int) = mn) ?_ ?_
  · (((try dsimp only); (try k_fold); (repeat' (first | (k_unfold; (try dsimp only)) | walk1 | (k_unmd; k_unfold; (try dsimp only)) | (dsimp only; first | (k_unfold; (try dsimp only)) | walk1)))))
    · rename Fr _ _ _ _ => F5
      rename News _ _ _ _ => N5
      refine KBa.make_K F5 N5 rfl (News.isList N5 (by k_mem)) (.cons _ _ .nil) (two_in (by omega) (by omega)) (Nat.le_of_ble_eq_true rfl) fun h' t' k F N hin => ?_
      have hb9 := KBa.ints_make hin
      (repeat' (first | (k_unfold; (try dsimp only)) | walk1 | (k_unmd; k_unfold; (try dsimp only)) | (dsimp only; first | (k_unfold; (try dsimp only)) | walk1)))
      ((refine' givesL_mk (_, _) ?gpx51 ?gkx51 ?gdx51 ?gFx51 ?gNx51 ?g1x51 ?g2x51 ?g3x51 ⟨_, _, rfl⟩; (case gFx51 => k_asm); (case gNx51 => k_asm); (case gkx51 => assumption); (case gdx51 => assumption); (case g1x51 => k_mem); (case g2x51 => k_mem); (case g3x51 => k_mem); try dsimp only))
      have h1 : (byteArr [([0, 255] : List Int).getD (way - 4).toNat 0]).size = 1 := by rw [← KBw.ints_length, hb9]; rfl
      rw [KBw.ints_length]
      generalize byteArr [([0, 255] : List Int).getD (way - 4).toNat 0] = bz at h1
      simp [h1]
    · rename Fr _ _ _ _ => F5
      have F6 : Fr s.heap L' _ (fun z => if z = Str.ofString "octets" then some (Value.bytes b4 t4) else if z = Str.ofString "octets" then some (.bytes b4 t4) else if z = Str.ofString "many" then some (.int mn tm) else if z = Str.ofString "way" then some (.int way ty) else if z = Str.ofString "script" then some (.ref addr) else none) :=
        fr_same F5 (fun z => by by_cases q : z = Str.ofString "octets" <;> simp [q])
      clear F5
      ((refine' givesL_mk (_, _) ?gpx52 ?gkx52 ?gdx52 ?gFx52 ?gNx52 ?g1x52 ?g2x52 ?g3x52 ⟨_, _, rfl⟩; (case gFx52 => k_asm); (case gNx52 => k_asm); (case gkx52 => assumption); (case gdx52 => assumption); (case g1x52 => k_mem); (case g2x52 => k_mem); (case g3x52 => k_mem); try dsimp only))
      exact hb4
  rintro ⟨b5, t5⟩ h5 tk5 oD5 oC5 oc5 hb5 dk5 hd5 F5' N5
  clear F4 N4 dk4 hd4
  have F5 : Fr s.heap L' h5 (fun z => if z = Str.ofString "octets" then some (Value.bytes b5 t5) else if z = Str.ofString "many" then some (.int mn tm) else if z = Str.ofString "way" then some (.int way ty) else if z = Str.ofString "script" then some (.ref addr) else none) :=
    fr_same F5' (fun z => by by_cases q : z = Str.ofString "octets" <;> simp [q])
  clear F5'
  dsimp only at hb5
  clear hb4 hk4
  have hk5 : KBw.bInts b5 = KBw.bInts b5 := rfl
  generalize hks : KBw.bInts b5 = ks at hb5 hk5
  have hin5 : KBa.In ks := fun k hk => KBw.ints_in (b := b5) (by rw [hks]; exact hk)
  refine joinL (σ := Array UInt8 × Tok) (g := s.heap) (L := L') (D := D) (C := C) (c := L' + 1) (fun a z => if z = Str.ofString "row" then some (.bytes a.1 a.2) else if z = Str.ofString "octets" then some (Value.bytes b5 t5) else if z = Str.ofString "many" then some (.int mn tm) else if z = Str.ofString "way" then some (.int way ty) else if z = Str.ofString "script" then some (.ref addr) else none)
    (fun a => KBw.bInts a.1 = rowBody ks ((ks.length + 3) / 4)) ?_ ?_
  · (((try dsimp only); (try k_fold); (repeat' (first | (k_unfold; (try dsimp only)) | walk1 | (k_unmd; k_unfold; (try dsimp only)) | (dsimp only; first | (k_unfold; (try dsimp only)) | walk1)))))
    unfold Hold
    refine c_lawrow w rfl (by walk_at "m_B") (by walk_at "m_X") (by walk_at "m_T") (by walk_at "m_rd") (by walk_at "m_ru") hks (by omega) (by omega) ?_
    intro b' t' h' hb' hk' tk'
    (((with_reducible rename Fr _ _ _ _ => mF); (with_reducible rename News _ _ _ _ => mN); (with_reducible rename Keeps _ _ => mK); (have zF := Fr.keptAll mF mK); (have zN := News.grown mN mK); clear mN mF mK; (try dsimp only); (try k_fold)))
    (((try dsimp only); (try k_fold); (repeat' (first | (k_unfold; (try dsimp only)) | walk1 | (k_unmd; k_unfold; (try dsimp only)) | (dsimp only; first | (k_unfold; (try dsimp only)) | walk1)))))
    ((refine' givesL_mk (_, _) ?gpx53 ?gkx53 ?gdx53 ?gFx53 ?gNx53 ?g1x53 ?g2x53 ?g3x53 ⟨_, _, rfl⟩; (case gFx53 => k_asm); (case gNx53 => k_asm); (case gkx53 => assumption); (case gdx53 => assumption); (case g1x53 => k_mem); (case g2x53 => k_mem); (case g3x53 => k_mem); try dsimp only))
    assumption
  rintro ⟨bR, tR⟩ h6 tk6 oD6 oC6 oc6 hbR dk6 hd6 F6 N6
  clear F5 N5 dk5 hd5
  dsimp only at hbR F6
  have hinv := read_row hin5 (by omega) (by omega)
  have hlR := rowBody_length ks ((ks.length + 3) / 4)
  refine wpS_execs (wpS_If (wpS_isOr (wpS_isCmp (wpS_Call ?_))))
  (((try dsimp only); (try k_fold); (repeat' (first | (k_unfold; (try dsimp only)) | walk1 | (k_unmd; k_unfold; (try dsimp only)) | (dsimp only; first | (k_unfold; (try dsimp only)) | walk1)))))
  refine wpS_callK (K := hd.heap_39 w.params) (by revert XB; k_fill; intro _; k_is) ?_ (by rfl) (by rfl)
  (((try dsimp only); (try k_fold); (repeat' (first | (k_unfold; (try dsimp only)) | walk1 | (k_unmd; k_unfold; (try dsimp only)) | (dsimp only; first | (k_unfold; (try dsimp only)) | walk1)))))
  refine c_row85 w rfl (by walk_at "m_B") (by walk_at "m_X") (by walk_at "m_T") (by walk_at "m_rd") (by walk_at "m_ru") hks (by omega) ?_
  intro b8 t8 h8 hb8 hkp8 tk8
  (((with_reducible rename Fr _ _ _ _ => mF); (with_reducible rename News _ _ _ _ => mN); (with_reducible rename Keeps _ _ => mK); (have zF := Fr.keptAll mF mK); (have zN := News.grown mN mK); clear mN mF mK; (try dsimp only); (try k_fold)))
  (((try dsimp only); (try k_fold); (repeat' (first | (k_unfold; (try dsimp only)) | walk1 | (k_unmd; k_unfold; (try dsimp only)) | (dsimp only; first | (k_unfold; (try dsimp only)) | walk1)))))
  · exfalso
    rename (Array.toList b8 != _) = true => q
    rename KBw.bInts (bR ++ _) = _ => ka
    rw [bints_eq (hb8.trans ka.symm)] at q
    simp at q
  refine wpS_isOr (wpS_isCmp (wpS_Call ?_))
  (((try dsimp only); (try k_fold); (repeat' (first | (k_unfold; (try dsimp only)) | walk1 | (k_unmd; k_unfold; (try dsimp only)) | (dsimp only; first | (k_unfold; (try dsimp only)) | walk1)))))
  refine wpS_callK (K := hd.heap_39 w.params) (by revert XB; k_fill; intro _; k_is) ?_ (by rfl) (by rfl)
  (((try dsimp only); (try k_fold); (repeat' (first | (k_unfold; (try dsimp only)) | walk1 | (k_unmd; k_unfold; (try dsimp only)) | (dsimp only; first | (k_unfold; (try dsimp only)) | walk1)))))
  refine c_hrow w rfl (by walk_at "m_B") XB TB (by walk_at "m_rd") (by walk_at "m_ru") hbR (by omega) ?_ ?_
  rotate_left
  · intro h9 hn
    rw [hinv] at hn; cases hn
  intro b9 t9 h9 hr9 hkp9 tk9
  obtain rfl : b9 = b5 := bints_eq ((Option.some.inj (hr9.symm.trans hinv)).trans hks.symm)
  (((with_reducible rename Fr _ _ _ _ => mF); (with_reducible rename News _ _ _ _ => mN); (with_reducible rename Keeps _ _ => mK); (have zF := Fr.keptAll mF mK); (have zN := News.grown mN mK); clear mN mF mK; (try dsimp only); (try k_fold)))
  (((try dsimp only); (try k_fold); (repeat' (first | (k_unfold; (try dsimp only)) | walk1 | (k_unmd; k_unfold; (try dsimp only)) | (dsimp only; first | (k_unfold; (try dsimp only)) | walk1)))))
  · exfalso
    rename (Array.toList b9 != _) = true => q
    simp at q
  refine wpS_isOrNil ?_
  (((try dsimp only); (try k_fold); (repeat' (first | (k_unfold; (try dsimp only)) | walk1 | (k_unmd; k_unfold; (try dsimp only)) | (dsimp only; first | (k_unfold; (try dsimp only)) | walk1)))))
  refine wpS_nil _ ?_
  dsimp only
  rename Fr _ _ _ _ => F7
  rename News _ _ _ _ => N7
  clear hb8 hr9 hinv
  replace hlR : (rowBody ks ((ks.length + 3) / 4)).length ≤ 66 := by omega
  have hlP : 0 < (rowBody ks ((ks.length + 3) / 4)).length := by rw [rowBody_length]; omega
  generalize hrb : rowBody ks ((ks.length + 3) / 4) = rb at hbR hlR hlP
  clear hm1 hm2 hw1 hw2 hb5
  refine wpS_execs (wpS_For (h₀ := s.heap) (m₀ := fun z => if z = Str.ofString "row" then some (.bytes bR tR) else if z = Str.ofString "octets" then some (Value.bytes b9 t5) else if z = Str.ofString "many" then some (.int mn tm) else if z = Str.ofString "way" then some (.int way ty) else if z = Str.ofString "script" then some (.ref addr) else none) (news := [(D, oD6), (C, oC6), (L' + 1, oc6)]) (n := 4) (a₀ := 0) (c₀ := 1)
    (fun i m nx => ∃ oD oC oc, nx = [(D, oD), (C, oC), (L' + 1, oc)] ∧ Deck w C oD oC ∧ oc.data = .cell (some (.ref D)) ∧ ∀ z, z ∉ [Str.ofString "turn", Str.ofString "at", Str.ofString "odd", Str.ofString "bent"] → m z = (fun z => if z = Str.ofString "row" then some (.bytes bR tR) else if z = Str.ofString "octets" then some (Value.bytes b9 t5) else if z = Str.ofString "many" then some (.int mn tm) else if z = Str.ofString "way" then some (.int way ty) else if z = Str.ofString "script" then some (.ref addr) else none) z) rfl (by passes_own) rfl rfl ?fturn ?fdone ?fj0 ?fhead (by intro _; rfl))
  case fhead =>
    (((try dsimp only); (try k_fold); (repeat' (first | (k_unfold; (try dsimp only)) | walk1 | (k_unmd; k_unfold; (try dsimp only)) | (dsimp only; first | (k_unfold; (try dsimp only)) | walk1)))))
    exact RangeHead.mk (by k_asm) (by k_asm) (by k_asm) ⟨_, _, rfl⟩ (by decide) (by decide)
  case fj0 => exact ⟨oD6, oC6, oc6, rfl, dk6, hd6, fun _ _ => rfl⟩
  case fturn =>
    intro s2 i t2 m1 nx h4 tk4 I oI hi hnI hJ F4 N4 hon
    obtain ⟨oD8, oC8, oc8, rfl, dk8, hd8, hz⟩ := hJ
    obtain ⟨_, _, rfl⟩ := hon
    obtain ⟨u, rfl⟩ := map0 _ hz
    clear F7 N7 dk6 hd6
    simp only [List.cons_append, List.nil_append] at N4
    have hI1 := hnI (D, oD8) (by simp)
    have hI2 := hnI (C, oC8) (by simp)
    have hI3 := hnI (L' + 1, oc8) (by simp)
    replace hI1 : @Ne Nat D I := hI1
    replace hI2 : @Ne Nat C I := hI2
    replace hI3 : @Ne Nat (L' + 1) I := hI3
    (((try (k_unfold; (try dsimp only))); refine wpS_plain ?_; (((try dsimp only); (try k_fold); (repeat' (first | (k_unfold; (try dsimp only)) | walk1 | (k_unmd; k_unfold; (try dsimp only)) | (dsimp only; first | (k_unfold; (try dsimp only)) | walk1)))))))
    (((try (k_unfold; (try dsimp only))); refine wpS_plain ?_; (((try dsimp only); (try k_fold); (repeat' (first | (k_unfold; (try dsimp only)) | walk1 | (k_unmd; k_unfold; (try dsimp only)) | (dsimp only; first | (k_unfold; (try dsimp only)) | walk1)))))))
    refine wpS_execs (wpS_If (wpS_isNot (wpS_isPlain (wpS_Call ?_))))
    (((try dsimp only); (try k_fold); (repeat' (first | (k_unfold; (try dsimp only)) | walk1 | (k_unmd; k_unfold; (try dsimp only)) | (dsimp only; first | (k_unfold; (try dsimp only)) | walk1)))))
    refine wpS_callB (K := hd.heap_39 w.params) (by revert XB; k_fill; intro _; k_is) XH (by k_asm) (by k_asm) ?_ ?_ (by rfl)
    · rename Fr _ _ _ _ => F5
      have hi4 : i = 0 ∨ i = 1 ∨ i = 2 ∨ i = 3 := (by decide : ∀ m : Fin 4, m.val = 0 ∨ m.val = 1 ∨ m.val = 2 ∨ m.val = 3) ⟨i, hi⟩
      rcases hi4 with rfl | rfl | rfl | rfl
      · have e : (0 + ((0 : Nat) : Int) * 1) = 0 := by decide
        rw [e] at F5 ⊢
        (repeat' (first | (k_unfold; (try dsimp only)) | walk1 | (k_unmd; k_unfold; (try dsimp only)) | (dsimp only; first | (k_unfold; (try dsimp only)) | walk1)))
        refine ⟨_, _, rfl, len_of (by kba_ints) ?_, by k_asm, by k_asm, _, _, rfl⟩
        simp only [List.length_append, List.length_take, List.length_drop, List.length_map, List.length_cons, List.length_nil]
        omega
      · have e : (0 + ((1 : Nat) : Int) * 1) = 1 := by decide
        rw [e] at F5 ⊢
        (repeat' (first | (k_unfold; (try dsimp only)) | walk1 | (k_unmd; k_unfold; (try dsimp only)) | (dsimp only; first | (k_unfold; (try dsimp only)) | walk1)))
        refine ⟨_, _, rfl, len_of (by kba_ints) ?_, by k_asm, by k_asm, _, _, rfl⟩
        simp only [List.length_append, List.length_take, List.length_drop, List.length_map, List.length_cons, List.length_nil]
        omega
      · have e : (0 + ((2 : Nat) : Int) * 1) = 2 := by decide
        rw [e] at F5 ⊢
        (repeat' (first | (k_unfold; (try dsimp only)) | walk1 | (k_unmd; k_unfold; (try dsimp only)) | (dsimp only; first | (k_unfold; (try dsimp only)) | walk1)))
        refine ⟨_, _, rfl, len_of (by kba_ints) ?_, by k_asm, by k_asm, _, _, rfl⟩
        simp only [List.length_append, List.length_take, List.length_drop, List.length_map, List.length_cons, List.length_nil]
        omega
      · have e : (0 + ((3 : Nat) : Int) * 1) = 3 := by decide
        rw [e] at F5 ⊢
        (repeat' (first | (k_unfold; (try dsimp only)) | walk1 | (k_unmd; k_unfold; (try dsimp only)) | (dsimp only; first | (k_unfold; (try dsimp only)) | walk1)))
        refine ⟨_, _, rfl, len_of (by kba_ints) ?_, by k_asm, by k_asm, _, _, rfl⟩
        simp only [List.length_append, List.length_take, List.length_drop, List.length_map, List.length_cons, List.length_nil]
        omega
    · clear hz hnI
      rename Fr _ _ _ _ => F5
      rename News _ _ _ _ => N5
      clear F5 N5
      intro b5 t5 h5 tk5 hl5 F5 N5
      refine c_isread w rfl (by walk_at "m_B") XB TB (by walk_at "m_rd") (by walk_at "m_ru") rfl hl5 ?_
      intro h6 hU tk6
      obtain ⟨F6, N6⟩ := turned0 (by k_asm) F5 N5 (by rfl) hU
      clear F5 N5
      (((try dsimp only); (try k_fold); (repeat' (first | (k_unfold; (try dsimp only)) | walk1 | (k_unmd; k_unfold; (try dsimp only)) | (dsimp only; first | (k_unfold; (try dsimp only)) | walk1)))))
      refine wpS_nil _ ?_
      try dsimp only
      refine wpS_nil _ ?_
      rename Fr _ _ _ _ => F7
      rename News _ _ _ _ => N7
      refine ⟨_, _, _, [(D, _), (C, _), (L' + 1, oc8)], _, rfl, F7, N7, ?fin1, by k_mem, ?fin2, _, _, _, rfl, by assumption, hd8, ?fin3⟩
      case fin1 =>
        intro p hp
        rcases List.mem_cons.mp hp with rfl | hp
        · k_mem
        rcases List.mem_cons.mp hp with rfl | hp
        · k_mem
        · rw [List.mem_singleton.mp hp]; k_mem
      case fin2 =>
        intro p hp
        rcases List.mem_cons.mp hp with rfl | hp
        · exact hI1
        rcases List.mem_cons.mp hp with rfl | hp
        · exact hI2
        · rw [List.mem_singleton.mp hp]; exact hI3
      case fin3 => ((intros; (try simp only [List.mem_cons, List.not_mem_nil, or_false, not_or] at *); first | rfl | simp_all))
  case fdone =>
    intro s2 m9 nx h4 tk4 hon hJ F4 N4
    obtain ⟨oD8, oC8, oc8, rfl, dk8, hd8, -⟩ := hJ
    obtain ⟨_, _, rfl⟩ := hon
    clear F7 N7 dk6 hd6
    rw [locC] at F4 N4
    dsimp only
    refine joinL (σ := Array UInt8 × Tok) (g := s.heap) (L := L') (D := D) (C := C) (c := L' + 1) (fun a z => if z = Str.ofString "short" then some (.bytes a.1 a.2) else m9 z) (fun a => (KBw.bInts a.1).length ≤ 12) ?_ ?_
    · (((try dsimp only); (try k_fold); (repeat' (first | (k_unfold; (try dsimp only)) | walk1 | (k_unmd; k_unfold; (try dsimp only)) | (dsimp only; first | (k_unfold; (try dsimp only)) | walk1)))))
      unfold Hold
      (((refine compW (F₀ := by k_asm) (by with_unfolding_all rfl) (by decide) (by rfl) (by decide) (by rfl) ?_)))
      (repeat' (first | (k_unfold; (try dsimp only)) | walk1 | (k_unmd; k_unfold; (try dsimp only)) | (dsimp only; first | (k_unfold; (try dsimp only)) | walk1)))
      rename Fr _ _ _ _ => F5
      rename News _ _ _ _ => N5
      rename IsRange _ _ _ _ _ _ _ _ => hr5
      rename Deck _ _ _ _ => dk5
      unfold Hold
      refine iterCR hr5 (small1' (by assumption) (by omega)) (size1' (by assumption)) (by omega) rfl F5 N5 fun gg => restJ (DrawJ w D C (L' + 1)) ?sturn ?sfin ⟨_, _, _, [], rfl, dk5, hd8, .nil, rfl, fun k hk => nomatch hk⟩
      case sturn =>
        clear F5 N5 hr5 dk5 hd8
        rintro i ys nw v I oI Cc oCc Dd m₂ h tk E' hi ⟨tv, rfl⟩ ⟨oD5, oC5, oc5, ks, rfl, dk5, hd5, hy, hl5, hin5⟩ hCo hx F N off ne
        obtain ⟨⟨o1, o2, o3⟩, ⟨o4, o5, o6⟩, ⟨o7, o8, o9⟩, _⟩ := id off
        dsimp only at o1 o2 o3 o4 o5 o6 o7 o8 o9
        have hs85 : signsI.length = 85 := by decide
        (repeat' (first | (k_unfold; (try dsimp only)) | walk1 | (k_unmd; k_unfold; (try dsimp only)) | (dsimp only; first | (k_unfold; (try dsimp only)) | walk1)))
        exact ⟨_, _, _, _, rfl, by assumption, hd5, IntsAre.append hy (.cons _ _ .nil), by rw [List.length_append, hl5]; rfl, in_snoc hin5 (KBw.getD_in signs_in).1 (KBw.getD_in signs_in).2⟩
      case sfin =>
        clear F5 N5 hr5 dk5 hd8
        rintro ys nw ⟨oD5, oC5, oc5, ks, rfl, dk5, hd5, hy, hl5, hin5⟩ D' h tk F N o1
        (repeat' (first | (k_unfold; (try dsimp only)) | walk1 | (k_unmd; k_unfold; (try dsimp only)) | (dsimp only; first | (k_unfold; (try dsimp only)) | walk1)))
        ((refine' givesL_mk (_, _) ?gpx54 ?gkx54 ?gdx54 ?gFx54 ?gNx54 ?g1x54 ?g2x54 ?g3x54 ⟨_, _, rfl⟩; (case gFx54 => k_asm); (case gNx54 => k_asm); (case gkx54 => assumption); (case gdx54 => assumption); (case g1x54 => k_mem); (case g2x54 => k_mem); (case g3x54 => k_mem); try dsimp only))
        rw [KBa.ints_make hin5, hl5]
        omega
    · rintro ⟨bS, tS⟩ h10 tk10 oD10 oC10 oc10 hbS dk10 hd10 F10 N10
      clear F4 N4 dk8 hd8
      dsimp only at hbS F10
      have hkS : KBw.bInts bS = KBw.bInts bS := rfl
      refine wpS_execs (wpS_If (wpS_isOr (wpS_isNot (wpS_isPlain (wpS_Call ?_)))))
      (((try dsimp only); (try k_fold); (repeat' (first | (k_unfold; (try dsimp only)) | walk1 | (k_unmd; k_unfold; (try dsimp only)) | (dsimp only; first | (k_unfold; (try dsimp only)) | walk1)))))
      refine wpS_callB (K := hd.heap_39 w.params) (by revert XB; k_fill; intro _; k_is) XH (by k_asm) (by k_asm) ?_ ?_ (by rfl)
      · (repeat' (first | (k_unfold; (try dsimp only)) | walk1 | (k_unmd; k_unfold; (try dsimp only)) | (dsimp only; first | (k_unfold; (try dsimp only)) | walk1)))
        exact ⟨_, _, rfl, by omega, by k_asm, by k_asm, _, _, rfl⟩
      rename Fr _ _ _ _ => F11
      rename News _ _ _ _ => N11
      clear F11 N11
      intro b5 t5 h5 tk5 hl5 F5 N5
      refine c_isread w rfl (by walk_at "m_B") XB TB (by walk_at "m_rd") (by walk_at "m_ru") rfl hl5 ?_
      intro h6 hU tk6
      obtain ⟨F6, N6⟩ := turned0 (by k_asm) F5 N5 (by rfl) hU
      clear F5 N5
      (((try dsimp only); (try k_fold); (repeat' (first | (k_unfold; (try dsimp only)) | walk1 | (k_unmd; k_unfold; (try dsimp only)) | (dsimp only; first | (k_unfold; (try dsimp only)) | walk1)))))
      refine wpS_isOr (wpS_isNot (wpS_isPlain (wpS_Call ?_)))
      (((try dsimp only); (try k_fold); (repeat' (first | (k_unfold; (try dsimp only)) | walk1 | (k_unmd; k_unfold; (try dsimp only)) | (dsimp only; first | (k_unfold; (try dsimp only)) | walk1)))))
      refine wpS_callB (K := hd.heap_39 w.params) (by revert XB; k_fill; intro _; k_is) XH (by k_asm) (by k_asm) ?_ ?_ (by rfl)
      · (repeat' (first | (k_unfold; (try dsimp only)) | walk1 | (k_unmd; k_unfold; (try dsimp only)) | (dsimp only; first | (k_unfold; (try dsimp only)) | walk1)))
        refine ⟨_, _, rfl, len_of (by kba_ints) ?_, by k_asm, by k_asm, _, _, rfl⟩
        simp only [List.length_append, List.length_take, List.length_drop, List.length_map, List.length_cons, List.length_nil]
        omega
      rename Fr _ _ _ _ => F11
      rename News _ _ _ _ => N11
      clear F11 N11
      intro b5 t5 h5 tk5 hl5 F5 N5
      refine c_isread w rfl (by walk_at "m_B") XB TB (by walk_at "m_rd") (by walk_at "m_ru") rfl hl5 ?_
      intro h6 hU tk6
      obtain ⟨F6, N6⟩ := turned0 (by k_asm) F5 N5 (by rfl) hU
      clear F5 N5
      (((try dsimp only); (try k_fold); (repeat' (first | (k_unfold; (try dsimp only)) | walk1 | (k_unmd; k_unfold; (try dsimp only)) | (dsimp only; first | (k_unfold; (try dsimp only)) | walk1)))))
      refine wpS_isOr (wpS_isNot (wpS_isPlain (wpS_Call ?_)))
      (((try dsimp only); (try k_fold); (repeat' (first | (k_unfold; (try dsimp only)) | walk1 | (k_unmd; k_unfold; (try dsimp only)) | (dsimp only; first | (k_unfold; (try dsimp only)) | walk1)))))
      refine wpS_callB (K := hd.heap_39 w.params) (by revert XB; k_fill; intro _; k_is) XH (by k_asm) (by k_asm) ?_ ?_ (by rfl)
      · (repeat' (first | (k_unfold; (try dsimp only)) | walk1 | (k_unmd; k_unfold; (try dsimp only)) | (dsimp only; first | (k_unfold; (try dsimp only)) | walk1)))
        exact ⟨_, _, rfl, by decide, by k_asm, by k_asm, _, _, rfl⟩
      rename Fr _ _ _ _ => F11
      rename News _ _ _ _ => N11
      clear F11 N11
      intro b5 t5 h5 tk5 hl5 F5 N5
      refine c_isread w rfl (by walk_at "m_B") XB TB (by walk_at "m_rd") (by walk_at "m_ru") rfl hl5 ?_
      intro h6 hU tk6
      obtain ⟨F6, N6⟩ := turned0 (by k_asm) F5 N5 (by rfl) hU
      clear F5 N5
      (((try dsimp only); (try k_fold); (repeat' (first | (k_unfold; (try dsimp only)) | walk1 | (k_unmd; k_unfold; (try dsimp only)) | (dsimp only; first | (k_unfold; (try dsimp only)) | walk1)))))
      refine wpS_isOrNil ?_
      (((try dsimp only); (try k_fold); (repeat' (first | (k_unfold; (try dsimp only)) | walk1 | (k_unmd; k_unfold; (try dsimp only)) | (dsimp only; first | (k_unfold; (try dsimp only)) | walk1)))))
      refine wpS_nil _ ?_
      try dsimp only
      refine wpS_any ?_
      (((try dsimp only); (try k_fold); (repeat' (first | (k_unfold; (try dsimp only)) | walk1 | (k_unmd; k_unfold; (try dsimp only)) | (dsimp only; first | (k_unfold; (try dsimp only)) | walk1)))))
      unfold Hold
      rename Fr _ _ _ _ => F7
      rename News _ _ _ _ => N7
      rename Below _ _ _ _ => B7
      refine c_rangesK w B7 XB TB F7 N7 dk10 hlt hlo hcD hcC rfl (by walk_at "m_rd") (by walk_at "m_ru") rfl rfl ?_
      intro oD11 oC11 h11 tk11 dk11 F12 N13
      clear F7 N7 dk10
      (((try dsimp only); (try k_fold); (repeat' (first | (k_unfold; (try dsimp only)) | walk1 | (k_unmd; k_unfold; (try dsimp only)) | (dsimp only; first | (k_unfold; (try dsimp only)) | walk1)))))
      unfold Hold
      rename Fr _ _ _ _ => F7
      rename News _ _ _ _ => N7
      refine c_modesK w B7 XB TB F7 N7 dk11 hlt hlo rfl (by walk_at "m_rd") (by walk_at "m_ru") rfl rfl ?_
      intro h12 tk12 F14
      clear F7
      (((try dsimp only); (try k_fold); (repeat' (first | (k_unfold; (try dsimp only)) | walk1 | (k_unmd; k_unfold; (try dsimp only)) | (dsimp only; first | (k_unfold; (try dsimp only)) | walk1)))))
      exact hQ _ _ (Fr.keep (by k_asm))
end

theorem law_holds : PySem.Challenge.rw_pb0094_01.Holds := by
  refine hd ?_
  k_fill
  intro w s₀ s₁ mg mb G Y fa o pm cd doc dV kV ho hod hcd hD hmg hg args vals as hpre hlay hrd hwl hlo
  have KX := kIn_of Y
  have T := G.T
  obtain rfl : fa = 222 := by
    have e := mg_of KX T.g (n := Str.ofString "law") (v := .ref 222) (by k_is)
    have e2 := e.symm.trans hmg
    cases e2
    rfl
  clear ho hod hcd hD hmg Y
  wrow_args hpre hlay hrd hwl hlo
  rename IntsAre _ _ => hI
  rename Heap.IsList _ _ _ => hL
  refine c_law w rfl (below_caller s₁.heap) KX T (by decide +kernel) (by decide +kernel) hL hI (by omega) ?_
  intro h' tk' kp
  refine GoodW.toG ⟨.inl ⟨_, .bool true, [], rfl, raisesW_false ?_, .bool true, ?_, fun _ => ⟨.nil, fun a ha => nomatch ha⟩⟩, kp, rfl, hg⟩
  · wrow_none_raised
  · wrow_post

end Mine
theorem PySem.Challenge.cw_pb0094_01_holds : PySem.Challenge.rw_pb0094_01.Holds := by
  exact Mine.law_holds
