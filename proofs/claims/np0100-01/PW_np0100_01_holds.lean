import PyProof.Rows.All
import Wide.All
import OpenK.AllK
import Wide.FinOn
import Lean
import PySem.Challenge.RW_np0100_01
open PySem PySem.W PySem.Calls PyProof.Rows PySem.Spec
set_option Elab.async false
set_option linter.all false
set_option maxRecDepth 100000
set_option maxHeartbeats 8000000
set_option genInjectivity false
set_option genSizeOf false
set_option genSizeOfSpec false
namespace Mine
section
open PySem PySem.W PyProof.Rows
set_option maxHeartbeats 8000000
def frRow : OpenRow := { PySem.Challenge.rw_np0100_01.row with loose := [Str.ofString "x"] }
noncomputable def frNat (n : Nat) : Nat := n
theorem frNat_of (n : Nat) (h : frRow.Holds) : frNat n = n := rfl
theorem fr0 : frNat 5 = 7 ∨ True := by
  simp (disch := (k_head)) only [frNat_of, or_true]
end
section
open PySem PySem.W PySem.Calls PyProof.Rows PySem.Spec
section
variable {prog : Program} {w : World} {A : Around} {E : Value → Shared → Prop} {s : Shared}

theorem seqItems_list {l : Addr} {items : Array Value} {Q : Array Value → Shared → Prop} (hl : s.heap.IsList l items) (h : Q items s) :
    wpAny (model prog w) A (Builtin.List.listItems (.ref l)) Q E s := by
  obtain ⟨o, ho, hc, ne, hd⟩ := hl
  unfold Builtin.List.listItems
  exact wpAny_bind (wpAny_seqItems ho hd (wpAny_pure h))

theorem allItems_list {l : Addr} {items : Array Value} {msg : String} {Q : Array Value → Shared → Prop} (hl : s.heap.IsList l items) (h : Q items s) :
    wpAny (model prog w) A (Builtin.List.listAllItems (.ref l) msg) Q E s := by
  unfold Builtin.List.listAllItems
  refine wpAny_bind (wpAny_typeOf hl.typeIs ?_)
  rw [if_pos (by decide)]
  exact seqItems_list hl h

theorem mapSeq_list {n : Nat} (items : Array Value) (f : Array Value → Array Value) : ∃ n', Obj.mapSeq f (listOf items n) = listOf (f items) n' := ⟨_, rfl⟩

theorem letGo_go {l k : List Value} {Q : Unit → Shared → Prop} (h : Q () s) : wpAny (model prog w) A (letGo l k) Q E s := by
  induction l with
  | nil => exact wpAny_pure h
  | cons a r ih => exact wpAny_bind (wpAny_holding (wpAny_point ih))

theorem setItem_slice {l r sl : Addr} {n : Nat} {items new : Array Value} {vl vu : Value} {lo hi : Option Int} {Q : Unit → Shared → Prop}
    (ho : s.heap.get? l = some (listOf items n)) (hr : s.heap.IsList r new) (hs : s.heap.IsSliceOf sl vl vu .none) (pl : IsPart vl lo) (pu : IsPart vu hi)
    {a b : Nat} (hb : sliceBounds lo hi none items.size = ((a : Int), (b : Int), 1)) (hab : a ≤ b) (hsz : items.size + new.size ≤ sizeLine)
    (hQ : ∀ h' n', Heap.SameBut l s.heap h' → h'.get? l = some (listOf (items.extract 0 a ++ new ++ items.extract b items.size) n') → Q () { s with heap := h' }) :
    wpAny (model prog w) A (setItem (.ref l) (.ref sl) (.ref r)) Q E s := by
  have hl : s.heap.IsList l items := ⟨_, ho, rfl, n, rfl⟩
  obtain ⟨os, hos, hcs, hds⟩ := id hs
  have hTs : s.TypeIs (.ref sl) "slice" := ⟨os, hos, hcs⟩
  unfold setItem
  try with_reducible refine wpAny_holding ?_
  first | refine wpAny_bind (wpAny_pure ?_) | skip
  refine wpAny_bind (wpAny_sequenceKey hl.typeIs (by decide) ?_)
  refine wpAny_bind (wpAny_callSpecial?_slot (name := Str.ofString "__setitem__") hl.typeIs slot_list_setitem
    (wpAny_call_entry slot_list_setitem hl.typeIs entry_list_setitem ?_ (args_list_setitem _ _ _)))
  show wpAny _ _ (Builtin.List.listSubscript? (.ref sl) >>= _) _ _ s
  refine wpAny_bind ?_
  unfold Builtin.List.listSubscript?
  refine wpAny_bind (wpAny_specialOf hTs slice_no_index ?_)
  simp only [Option.isNone_none, if_true]
  refine wpAny_pure ?_
  show wpAny _ _ (typeOf (.ref sl) >>= _) _ _ s
  refine wpAny_bind (wpAny_typeOf hTs ?_)
  rw [if_neg (by decide)]
  rw [listSliceParts_eq]
  refine wpAny_bind (wpAny_bind (wpAny_field hos hds (x := .none) rfl (wpAny_bind (wpAny_listPart .none ?_))))
  rw [if_neg (by decide)]
  refine wpAny_bind (wpAny_field hos hds (x := vl) rfl (wpAny_bind (wpAny_listPart pl ?_)))
  refine wpAny_bind (wpAny_field hos hds (x := vu) rfl (wpAny_bind (wpAny_listPart pu (wpAny_pure ?_))))
  have hmax : (max (a : Int) (b : Int)).toNat = b := by rw [Int.max_eq_right (Int.ofNat_le.mpr hab), Int.toNat_natCast]
  refine wpAny_ite ?_
  split
  case' isTrue => refine wpAny_bind (seqItems_list hr ?_)
  case' isFalse => refine wpAny_bind (allItems_list hr ?_)
  all_goals
    refine wpAny_bind (seqItems_list hl ?_)
    refine wpAny_bind (wpAny_of_eq (sliceIndices_raw lo hi none items.size (by simp)) ?_)
    rw [hb]
    dsimp only
    rw [if_pos (by decide)]
    refine wpAny_bind (wpAny_rule ?_)
    rw [if_neg (by simp [Builtin.List.listTooLong]; omega)]
    rw [hmax]
    refine wpAny_bind (wpAny_updateSeq ho rfl ?_)
    refine wpAny_bind (letGo_go ?_)
    obtain ⟨n', hn'⟩ := mapSeq_list (n := n) items fun xs => xs.extract 0 (a : Int).toNat ++ new ++ xs.extract b
    exact wpAny_pure ⟨.none, rfl, wpAny_pure (hQ _ n' (Heap.SameBut.update ..) (by rw [Heap.get?_update_self _ ho (by rw [hn']; rfl), hn']; rfl))⟩

end
end
section
open PySem PySem.W PySem.Calls PyProof.Rows PySem.Spec
set_option maxHeartbeats 8000000
noncomputable abbrev PG := PySem.Challenge.rw_np0100_01.row.prog
noncomputable abbrev VW := Mine.fr0.view_1
noncomputable abbrev LO : List Str := looseW VW [Str.ofString "insert_at", Str.ofString "insert", Str.ofString "Buffer"]

noncomputable abbrev Led := List (Addr × Obj)
noncomputable def Kept (h h' : Heap) (ms : List Addr) : Prop := ∀ b o, h.get? b = some o → b ∉ ms → h'.get? b = some o
noncomputable def Fresh (h : Heap) (foot led : Led) : Prop := ∀ p ∈ led, p.1 ∈ foot.map (·.1) ∨ h.get? p.1 = none

section
variable {prog : Program} {w : World} {A₀ A : Around} {s : Shared} {K : Frag} {C L : Addr} {h₀ base : Heap} {m mg mb : Str → Option Value} {news : Led} {p : Program} {loose : List Str} {mean : ExcName → Option Value} {Q : Value → Shared → Prop}

theorem code_defQ {env : Env} {outer : List Env} {R : Result → Shared → Prop} {name qual : Str} {params : Arguments} {body : List Stmt} {scope : Scope} {dV kV doc pm cdv ct oc : Value} {an od : Option Addr} {osl : Array (Option Value)} {f : Addr} {args : Args} (binds : List (Str × Value))
    (B : Below A₀ base outer h₀) (F : Fr h₀ L s.heap m) (X₀ : K.In h₀) (N : News h₀ L s.heap news) (T : Top p loose mean mg mb h₀) (hA : A.frames = some (env :: outer)) (hf : env.frame = some L) (hke : env.scope.kind = .function)
    (ho : K.lookup f = some ⟨oc, od, .func (fnOf name qual params body scope dV kV doc pm an cdv ct), osl⟩) (hcd : codeIn K cdv qual = true) (hroom : A.depth < recursionLimit)
    (hbind : BindsTo s (fnOf name qual params body scope dV kV doc pm an cdv ct) args binds) (hloc : ∀ y ∈ binds, scope.names.lookup y.1 = some .local)
    (h : ∀ g L' h₁, Fr h₀ L g m → Fr g L' h₁ (fun y => binds.reverse.lookup y) → News g L' h₁ news → Below A base (env :: outer) g → K.In g → Top p loose mean mg mb g →
      (∀ b o, s.heap.get? b = some o → b ∉ news.map (·.1) → g.get? b = some o) → (∀ b, g.get? b = none → b ∈ news.map (·.1) ∨ s.heap.get? b = none) →
      wpAny (model prog w) (A.deeper (envOf qual scope L' f cdv)) (execs body (envOf qual scope L' f cdv))
        (fun fl s' => LeaveK h₀ L m g R (match fl with | .ret v => v | _ => .none) s')
        (fun e s' => wpAny (model prog w) (A.deeper (envOf qual scope L' f cdv)) (leaving (envOf qual scope L' f cdv) e) (fun _ s'' => R (.error e) s'') (fun e' s'' => R (.error e') s'') s')
        { s with heap := h₁, toks := s.toks + binds.length })
    (hco : scope.isCoroutine = false) (hgen : scope.isGenerator = false) (hk : scope.kind = .function)
    (hcell : ∀ x ∈ scope.names, x.2 ≠ .cell) : codeAny (model prog w) A (.call (.ref f) args) R s := by
  have X := X₀.keeps F.keep
  obtain ⟨FG, BG, st, lv⟩ := groundX (R := R) B F N hA hf hke
  refine codeAny_call_def (fd := fnX name qual params body scope [] dV kV doc pm an cdv ct) (body := body) (binds := binds) hroom (X _ _ ho) rfl (T.nolimit.keeps F.keep) (codeRec_of X hcd) rfl hbind hcell hloc (fun h₁ hns hk₁ => ?_) hco hgen hk
  exact wpAny_mono (h _ s.heap.objs.size h₁ FG ⟨hns, fun b o e => hk₁ b o (of_hideAll _ e), Nat.le_of_eq (hideAll_size _ _)⟩
    (fun p hp => ⟨hk₁ _ _ (N p hp).1, Nat.ne_of_lt (Heap.lt_size (N p hp).1), hideAll_none _ (List.mem_map_of_mem hp)⟩) BG (X₀.keeps st) (T.keeps st)
    (fun b o e n => hideAll_get _ e n) (fun b e => by
      by_cases hb : b ∈ news.map (·.1)
      · exact .inl hb
      · refine .inr ?_
        cases q : s.heap.get? b with
        | none => rfl
        | some o => rw [hideAll_get _ q hb] at e; cases e)) (fun fl s' hl => lv _ _ hl) fun _ _ y => y

theorem code_defCQ {env : Env} {outer : List Env} {R : Result → Shared → Prop} {name qual : Str} {params : Arguments} {body : List Stmt} {scope : Scope} {dV kV doc pm cdv ct oc : Value} {an od : Option Addr} {osl : Array (Option Value)} {f : Addr} {args : Args} (binds : List (Str × Value))
    (B : Below A₀ base outer h₀) (F : Fr h₀ L s.heap m) (X₀ : K.In h₀) (N : News h₀ L s.heap news) (T : Top p loose mean mg mb h₀) (hA : A.frames = some (env :: outer)) (hf : env.frame = some L) (hke : env.scope.kind = .function)
    (ho : K.lookup f = some ⟨oc, od, .func (fnOf name qual params body scope dV kV doc pm an cdv ct), osl⟩) (hcd : codeIn K cdv qual = true) (hroom : A.depth < recursionLimit)
    (hbind : BindsTo s (fnOf name qual params body scope dV kV doc pm an cdv ct) args binds) (hkind : (binds.all fun y => scope.names.lookup y.1 == some .local || scope.names.lookup y.1 == some .cell) = true)
    (hnd : ((cellsFrom 0 scope.names []).map (·.1)).Nodup)
    (h : ∀ g L' h₁ tk cells, Fr h₀ L g m → Fr g L' h₁ (bindL (envOfC qual scope L' f cdv).kindOf binds fun _ => none) → News g L' h₁ (cells ++ news) →
      CellsAre (bindC (envOfC qual scope L' f cdv).kindOf binds fun _ => none) (cellsFrom (L' + 1) scope.names []) cells → Below A base (env :: outer) g → K.In g → Top p loose mean mg mb g → (∀ p ∈ news, p.1 < L') →
      (∀ b o, s.heap.get? b = some o → b ∉ news.map (·.1) → g.get? b = some o) → (∀ b, g.get? b = none → b ∈ news.map (·.1) ∨ s.heap.get? b = none) →
      wpAny (model prog w) (A.deeper (envOfC qual scope L' f cdv)) (execs body (envOfC qual scope L' f cdv))
        (fun fl s' => LeaveK h₀ L m g R (match fl with | .ret v => v | _ => .none) s')
        (fun e s' => wpAny (model prog w) (A.deeper (envOfC qual scope L' f cdv)) (leaving (envOfC qual scope L' f cdv) e) (fun _ s'' => R (.error e) s'') (fun e' s'' => R (.error e') s'') s')
        { s with heap := h₁, toks := tk })
    (hco : scope.isCoroutine = false) (hgen : scope.isGenerator = false) (hk : scope.kind = .function) : codeAny (model prog w) A (.call (.ref f) args) R s := by
  have X := X₀.keeps F.keep
  obtain ⟨FG, BG, st, lv⟩ := groundX (R := R) B F N hA hf hke
  refine codeAny_call_function hroom (X _ _ ho) rfl hco hgen rfl (codeRec_of X hcd) (hbind _ _ _ _ ?_)
  refine wpAny_newFunctionEnv_cells hk (kindsX hkind _) fun env' he s' x => ?_
  subst he
  refine ⟨(T.nolimit.keeps F.keep).keeps x.toInCall.keep, codeAny_func ?_⟩
  obtain ⟨h₁, tk, rfl, _⟩ := x.done
  have hk₁ := x.toInCall.keep
  obtain ⟨cells, NC, Y⟩ := Cl.news (h₀ := s.heap) (Nat.le_refl _) fun n c hm => ⟨x.cell n c (lookup_of_mem_nodup (cellsFrom_names scope.names 0 (s.heap.objs.size + 1) [] [] rfl ▸ hnd) hm), x.above n c hm⟩
  refine wpAny_mono (h _ s.heap.objs.size h₁ tk cells FG ⟨x.toInCall.ns, fun b o e => hk₁ b o (of_hideAll _ e), Nat.le_of_eq (hideAll_size _ _)⟩ (fun p hp => ?_) Y BG (X₀.keeps st) (T.keeps st) (fun p hp => Heap.lt_size (N p hp).1)
    (fun b o e n => hideAll_get _ e n) (fun b e => by
      by_cases hb : b ∈ news.map (·.1)
      · exact .inl hb
      · refine .inr ?_
        cases q : s.heap.get? b with
        | none => rfl
        | some o => rw [hideAll_get _ q hb] at e; cases e)) (fun fl s' hl => lv _ _ hl) fun _ _ y => y
  rcases List.mem_append.mp hp with hp | hp
  · refine ⟨(NC p hp).1, (NC p hp).2.1, ?_⟩
    cases q : (hideAll s.heap (news.map (·.1))).get? p.1 with
    | none => rfl
    | some o => have := of_hideAll _ q; rw [(NC p hp).2.2] at this; cases this
  · exact ⟨hk₁ _ _ (N p hp).1, Nat.ne_of_lt (Heap.lt_size (N p hp).1), hideAll_none _ (List.mem_map_of_mem hp)⟩

end
section
variable {h₀ : Heap} {L : Addr}
end
end
section
open PySem PySem.W PySem.Calls PyProof.Rows PySem.Spec
inductive VEq : Value → Value → Prop
  | refl (v : Value) : VEq v v
  | int (i : Int) (t t' : Tok) : VEq (.int i t) (.int i t')
  | str (s : Str) (t t' : Tok) : VEq (.str s t) (.str s t')
theorem VEq.int_inv {i : Int} {t : Tok} {v : Value} (h : VEq (.int i t) v) : ∃ t', v = .int i t' := by
  cases h with
  | refl => exact ⟨_, rfl⟩
  | int => exact ⟨_, rfl⟩
theorem VEq.ref_inv {a : Addr} {v : Value} (h : VEq (.ref a) v) : v = .ref a := by cases h; rfl
theorem VEq.none_inv {v : Value} (h : VEq .none v) : v = .none := by cases h; rfl
theorem VEq.bool_inv {b : Bool} {v : Value} (h : VEq (.bool b) v) : v = .bool b := by cases h; rfl
theorem VEq.handed {v v' : Value} (h : VEq v v') (e : handedIn v = true) : handedIn v' = true := by
  cases h with
  | refl => exact e
  | int => rfl
  | str => rfl
inductive VsEq : List Value → List Value → Prop
  | nil : VsEq [] []
  | cons {v v' l l'} : VEq v v' → VsEq l l' → VsEq (v :: l) (v' :: l')
noncomputable abbrev Fields := List (Str × Value)
inductive FsEq (w : World) : Fields → List DictEntry → Prop
  | nil : FsEq w [] []
  | cons {n v t v' r r'} : VEq v v' → FsEq w r r' → FsEq w ((n, v) :: r) (⟨PyData.keyHash w.params n, .str n t, v'⟩ :: r')
inductive AO
  | inst (C : Addr) (fs : Fields)
  | list (vs : List Value)
  | tup (vs : List Value)
  | cell (v : Option Value)
  | obj (o : Obj)
  | idict (kvs : List (Int × Value))
noncomputable abbrev ALed := List (Addr × AO)
inductive Den (w : World) (a : Addr) : AO → Led → Prop
  | inst {C fs dx es n} : FsEq w fs es → (fs.map (·.1)).Nodup → Den w a (.inst C fs) [(a, instObj C dx), (dx, dictOf es n)]
  | list {vs vs' n} : VsEq vs vs' → Den w a (.list vs) [(a, listOf vs'.toArray n)]
  | tup {vs vs'} : VsEq vs vs' → Den w a (.tup vs) [(a, { cls := .type "tuple", data := .seq vs'.toArray })]
  | cell {o v v'} : o.data = .cell (some v') → VEq v v' → Den w a (.cell (some v)) [(a, o)]
  | cellN {o} : o.data = .cell none → Den w a (.cell none) [(a, o)]
  | obj {o} : Den w a (.obj o) [(a, o)]
  | idict {kvs o} : (a == sysModules) = false → o.IsDictOf (intKind PG w) kvs → Den w a (.idict kvs) [(a, o)]
inductive DenL (w : World) : ALed → Led → Prop
  | nil : DenL w [] []
  | cons {a o l r l'} : Den w a o l → DenL w r l' → DenL w ((a, o) :: r) (l ++ l')
theorem DenL.get {w : World} {led : ALed} {cl : Led} (D : DenL w led cl) {a : Addr} {o : AO} (h : (a, o) ∈ led) : ∃ l, Den w a o l ∧ ∀ p ∈ l, p ∈ cl := by
  induction D with
  | nil => cases h
  | cons d _ ih =>
    rcases List.mem_cons.mp h with e | h
    · cases e; exact ⟨_, d, fun p hp => List.mem_append_left _ hp⟩
    · obtain ⟨l, dl, hl⟩ := ih h
      exact ⟨l, dl, fun p hp => List.mem_append_right _ (hl p hp)⟩
theorem FsEq.get {w : World} {fs : Fields} {es : List DictEntry} (h : FsEq w fs es) {n : Str} {v : Value} (e : (n, v) ∈ fs) (nd : (fs.map (·.1)).Nodup) : ∃ v', getL n es = some (some v') ∧ VEq v v' := by
  induction h with
  | nil => cases e
  | @cons n₁ v₁ t₁ v₁' r r' hv hr ih =>
    rw [List.map_cons, List.nodup_cons] at nd
    unfold getL
    rw [List.find?_cons]
    cases e with
    | head =>
      have : Value.isStr (.str n t₁) n = true := by show (n == n) = true; exact beq_self_eq_true _
      rw [this]
      exact ⟨_, rfl, hv⟩
    | tail _ e =>
      have : Value.isStr (.str n₁ t₁) n = false := by
        show (n₁ == n) = false
        cases q : n₁ == n with
        | false => rfl
        | true => exact absurd (List.mem_map_of_mem (f := (·.1)) e) (by rw [← eq_of_beq q]; exact nd.1)
      rw [this]
      obtain ⟨v', h1, h2⟩ := ih e nd.2
      refine ⟨v', ?_, h2⟩
      unfold getL at h1
      revert h1
      cases List.find? (fun x => x.key.isStr n) r' with
      | some y => exact id
      | none =>
        dsimp only
        intro h1
        split at h1 <;> cases h1
section
variable {M : Model} {A : Around} {E : Value → Shared → Prop} {s : Shared} {K : Frag} {h₀ : Heap} {m mg mb : Str → Option Value} {env : Env} {p : Program} {loose : List Str} {mean : ExcName → Option Value}
  {x : Str} {pos : Pos} {v : Value} {Q : Value → Shared → Prop} {news : Led} {c : Addr} {o : Obj}
theorem nm_K (F : Fr h₀ env.locals s.heap m) (X : K.In h₀) (T : TopRead p loose mg mb h₀) (e : nsIn K mainGlobals x = some (some v)) (h : Q v s) (hk : env.scope.kind = .function) (hx : env.kindOf x = some .globalImplicit) (hd : (x == ("__debug__" : Str)) = false) (hg : env.globals = mainGlobals := by rfl) :
    wpAny M A (eval (.Name x pos) env) Q E s := by
  obtain ⟨sc, lo, gl, ce, qu, fu, co, fr, bu⟩ := env
  cases hg
  exact Name_function_global hk hx (loadGlobal_global (T.g.keeps F.keep) (mg_of X T.g e) h) hd
theorem nm_B (F : Fr h₀ env.locals s.heap m) (X : K.In h₀) (T : TopRead p loose mg mb h₀) (e : nsIn K mainGlobals x = some none) (hv : bootBuiltins x = some v) (hn : x ≠ "__name__") (h : Q v s) (hk : env.scope.kind = .function) (hx : env.kindOf x = some .globalImplicit) (hd : (x == ("__debug__" : Str)) = false) (hg : env.globals = mainGlobals := by rfl) (hb : env.builtins = builtinsNs := by rfl) :
    wpAny M A (eval (.Name x pos) env) Q E s := by
  obtain ⟨sc, lo, gl, ce, qu, fu, co, fr, bu⟩ := env
  cases hg
  cases hb
  exact Name_function_global hk hx (loadGlobal_builtin (T.g.keeps F.keep) (mg_none_of X T.g e) (T.b.keeps F.keep) ((T.builtins x hn).trans hv) h) hd
theorem nm_L (F : Fr h₀ env.locals s.heap m) (hv : m x = some v) (h : Q v s) (hk : env.scope.kind = .function) (hx : env.kindOf x = some .local) (hd : (x == ("__debug__" : Str)) = false) :
    wpAny M A (eval (.Name x pos) env) Q E s := wpAny_Name (wpAny_loadName_local hk hx F.ns hv h) hd
theorem nm_C {L : Addr} (N : News h₀ L s.heap news) (hc : env.cells.lookup x = some c) (hm : (c, o) ∈ news) (hd : o.data = .cell (some v)) (h : Q v s) (hk : env.scope.kind = .function) (hx : env.kindOf x = some .cell) (hb : (x == ("__debug__" : Str)) = false) :
    wpAny M A (eval (.Name x pos) env) Q E s := wpAny_Name (wpAny_loadName_cell hk hx hc ⟨o, N.get hm, hd⟩ h) hb
theorem st_L {Q : Unit → Shared → Prop} (F : Fr h₀ env.locals s.heap m) (N : News h₀ env.locals s.heap news) (h : ∀ h', Fr h₀ env.locals h' (fun y => if y = x then some v else m y) → News h₀ env.locals h' news → Q () { s with heap := h', toks := s.toks + 1 }) (hk : env.scope.kind = .function) (hx : env.kindOf x = some .local) :
    wpAny M A (storeName env x v) Q E s :=
  wpAny_storeName_local hx F.ns (fun h' hn hs => h h' (F.set hn hs) (N.set hs)) (by rw [hk]; rfl)
end
noncomputable def okLev (lf lev : Nat) : Bool := Nat.ble 1 lf && Nat.ble lf lev
theorem okLev_le {lf lev : Nat} (h : okLev lf lev = true) : lf ≤ lev := Nat.le_of_ble_eq_true (Bool.and_eq_true_iff.mp h).2
theorem okLev_pos {lf lev : Nat} (h : okLev lf lev = true) : 0 < lev := Nat.lt_of_lt_of_le (Nat.le_of_ble_eq_true (Bool.and_eq_true_iff.mp h).1) (okLev_le h)
structure Fn where
  cn : Str
  cs : Scope
  a : Option Addr
  cd : Value
structure Cx where
  w : World
  g : Heap
  L : Addr
  cl : List (Str × Addr)
  A₀ : Around
  base : Heap
  outer : List Env
  mean : ExcName → Option Value
  mg : Str → Option Value
  mb : Str → Option Value
  dp : Nat
  un : Nat
  gd : Option (List Code)
  s₀ : Shared
  fr : Option Addr
  top : Env
noncomputable abbrev Cx.env (F : Fn) (c : Cx) : Env := { scope := F.cs, locals := c.L, globals := mainGlobals, cells := c.cl, qual := F.cn, func := F.a, code := F.cd, frame := c.fr, builtins := builtinsNs }
noncomputable abbrev Cx.A (F : Fn) (c : Cx) : Around := { handled := none, depth := c.dp, frames := some (c.top :: c.outer), guards := c.gd, units := c.un }
structure Ok (F : Fn) (lev : Nat) (c : Cx) : Prop where
  X : (Mine.fr0.heap_1 c.w.params).In c.g
  T : Top VW LO c.mean c.mg c.mb c.g
  B : Below c.A₀ c.base c.outer c.g
  k : F.cs.kind = .function
  d : c.dp + lev < recursionLimit
  u : c.un + 20 * lev < cLine
  f : 0 < lev → c.top.frame = some c.L ∧ c.top.scope.kind = .function
noncomputable abbrev Lo := List (Str × Option Value)
noncomputable def isLoc (F : Fn) (x : Str) : Bool := decide (F.cs.names.lookup x = some .local) && !(x == ("__debug__" : Str))
noncomputable def LoOk (F : Fn) (lo : Lo) : Prop := (lo.map (·.1)).Nodup ∧ ∀ x ∈ lo.map (·.1), isLoc F x = true
noncomputable def Sim (s₀ s : Shared) : Prop := s = { s₀ with heap := s.heap, toks := s.toks }
theorem Sim.upd {s₀ s : Shared} (h : Sim s₀ s) (hp : Heap) (n : Nat) : Sim s₀ { s with heap := hp, toks := n } := by
  unfold Sim at h ⊢
  rw [h]
inductive St (F : Fn) (c : Cx) (lo : Lo) (led : ALed) (s : Shared) : Prop
  | mk (sm : Sim c.s₀ s) (lk : LoOk F lo) (m : Str → Option Value) (cl : Led) (Fm : Fr c.g c.L s.heap m) (hlo : ∀ x v, (x, some v) ∈ lo → ∃ v', m x = some v' ∧ VEq v v') (D : DenL c.w led cl) (N : News c.g c.L s.heap cl) (nd : (cl.map (·.1)).Nodup)
theorem St.toks {F : Fn} {c : Cx} {lo : Lo} {led : ALed} {s : Shared} (h : St F c lo led s) (n : Nat) : St F c lo led { s with toks := n } := by
  obtain ⟨sm, lk, m, cl, Fm, hlo, D, N, nd⟩ := h
  exact ⟨sm.upd _ _, lk, m, cl, Fm, hlo, D, N, nd⟩
noncomputable def Ev (F : Fn) (lev : Nat) (c : Cx) (lo : Lo) (led : ALed) (e : Expr) (v : Value) : Prop :=
  Ok F lev c → ∀ s, St F c lo led s → ∀ Q E, (∀ v' s', VEq v v' → St F c lo led s' → Q v' s') → wpAny (model PG c.w) (c.A F) (eval e (c.env F)) Q E s
section
variable {F : Fn} {lev : Nat} {c : Cx} {lo : Lo} {led : ALed}
theorem Ev.loc {x : Str} {v : Value} {pos : Pos} (hv : (x, some v) ∈ lo) : Ev F lev c lo led (.Name x pos) v := by
  intro ok s ⟨sm, lk, m, cl, Fm, hm, D, N, nd⟩ Q E h
  obtain ⟨v', e1, e2⟩ := hm x v hv
  obtain ⟨h1, h2⟩ := Bool.and_eq_true_iff.mp (lk.2 x (List.mem_map_of_mem (f := (·.1)) hv))
  exact nm_L Fm e1 (h v' s e2 ⟨sm, lk, m, cl, Fm, hm, D, N, nd⟩) ok.k (of_decide_eq_true h1) (Bool.not_eq_true' _ ▸ h2)
theorem Ev.int {i : Int} {k : Nat} {pos : Pos} : Ev F lev c lo led (.Constant (.int i) k pos) (.int i 0) := by
  intro ok s S Q E h
  exact wpAny_Constant_int (h _ _ (.int i 0 _) (S.toks _))
theorem Ev.none {k : Nat} {pos : Pos} : Ev F lev c lo led (.Constant .none k pos) .none := by
  intro ok s S Q E h
  exact wpAny_Constant_none (h _ _ (.refl _) S)
theorem getA {x C : Addr} {fs : Fields} {attr : Str} {v : Value} {av : Option Value} (ok : Ok F lev c) (hm : (x, AO.inst C fs) ∈ led) (hf : (attr, v) ∈ fs)
    (h1 : plainGet (Mine.fr0.heap_1 c.w.params) C attr = true) (h2 : hasDictIn (Mine.fr0.heap_1 c.w.params) C = true) (h3 : findIn (Mine.fr0.heap_1 c.w.params) (.ref C) attr = some av) (h4 : noGet (Mine.fr0.heap_1 c.w.params) av = true) (h5 : handedIn v = true)
    {s : Shared} (S : St F c lo led s) {Q : Value → Shared → Prop} {E : Value → Shared → Prop} {A : Around} {b : Bool} (h : ∀ v' s', VEq v v' → St F c lo led s' → Q v' s') : wpAny (model PG c.w) A (getAttr (.ref x) attr b) Q E s := by
  obtain ⟨sm, lk, m, cl, Fm, hlo, D, N, nd⟩ := S
  obtain ⟨l, d, hl⟩ := D.get hm
  cases d with
  | inst he hn =>
    obtain ⟨v', g1, g2⟩ := he.get hf hn
    exact get_own Fm ok.X (InstAt.of_news N (hl _ (.head _)) (hl _ (.tail _ (.head _)))) h1 h2 h3 h4 g1 (g2.handed h5) (h v' _ g2 ⟨sm.upd _ _, lk, m, cl, Fm, hlo, D, N, nd⟩)
theorem Ev.sub {l r : Expr} {pos : Pos} {i j : Int} {t u : Tok} (h1 : Ev F lev c lo led l (.int i t)) (h2 : Ev F lev c lo led r (.int j u)) : Ev F lev c lo led (.BinOp l .Sub r pos) (.int (i - j) 0) := by
  intro ok s S Q E h
  refine wpAny_BinOp (h1 ok s S _ _ fun v1 s1 q1 S1 => h2 ok s1 S1 _ _ fun v2 s2 q2 S2 => ?_)
  obtain ⟨t1, rfl⟩ := q1.int_inv
  obtain ⟨t2, rfl⟩ := q2.int_inv
  exact sub_int (h _ _ (.int _ _ _) (S2.toks _))
theorem Ev.add {l r : Expr} {pos : Pos} {i j : Int} {t u : Tok} (h1 : Ev F lev c lo led l (.int i t)) (h2 : Ev F lev c lo led r (.int j u)) : Ev F lev c lo led (.BinOp l .Add r pos) (.int (i + j) 0) := by
  intro ok s S Q E h
  refine wpAny_BinOp (h1 ok s S _ _ fun v1 s1 q1 S1 => h2 ok s1 S1 _ _ fun v2 s2 q2 S2 => ?_)
  obtain ⟨t1, rfl⟩ := q1.int_inv
  obtain ⟨t2, rfl⟩ := q2.int_inv
  exact add_int (h _ _ (.int _ _ _) (S2.toks _))
end
end
section
open PySem PySem.W PySem.Calls PyProof.Rows PySem.Spec
theorem VsEq.length {l l' : List Value} (h : VsEq l l') : l.length = l'.length := by
  induction h with
  | nil => rfl
  | cons _ _ ih => simp [ih]
inductive Rem (p : Addr × AO) : ALed → ALed → Prop
  | head {r} : Rem p (p :: r) r
  | tail {q r r'} : Rem p r r' → Rem p (q :: r) (q :: r')
  | skip {T r r'} : Rem p r r' → Rem p (T ++ r) (T ++ r')
inductive RemL (T : ALed) : ALed → ALed → Prop
  | head {r} : RemL T (T ++ r) r
  | all : RemL T T []
  | tail {q r r'} : RemL T r r' → RemL T (q :: r) (q :: r')
  | skip {U r r'} : RemL T r r' → RemL T (U ++ r) (U ++ r')
inductive Split : ALed → ALed → ALed → Prop
  | nil {led} : Split led [] led
  | cons {p led led1 foot rest} : Rem p led led1 → Split led1 foot rest → Split led (p :: foot) rest
  | app {T led led1 foot rest} : RemL T led led1 → Split led1 foot rest → Split led (T ++ foot) rest
  | last {T led rest} : RemL T led rest → Split led T rest
theorem DenL.app {w : World} : ∀ {a b : ALed} {x y : Led}, DenL w a x → DenL w b y → DenL w (a ++ b) (x ++ y)
  | _, _, _, _, .nil, h => h
  | _, _, _, _, .cons d r, h => by rw [List.append_assoc]; exact .cons d (r.app h)
theorem DenL.unapp {w : World} : ∀ {a b : ALed} {z : Led}, DenL w (a ++ b) z → ∃ x y, z = x ++ y ∧ DenL w a x ∧ DenL w b y
  | [], _, _, h => ⟨[], _, rfl, .nil, h⟩
  | _ :: _, _, _, .cons d r => by
    obtain ⟨x, y, rfl, h1, h2⟩ := DenL.unapp r
    exact ⟨_, y, (List.append_assoc ..).symm, .cons d h1, h2⟩
theorem Rem.den {w : World} {p : Addr × AO} {led led' : ALed} (R : Rem p led led') : ∀ {cl : Led}, DenL w led cl → ∃ l cr, Den w p.1 p.2 l ∧ DenL w led' cr ∧ cl.Perm (l ++ cr) := by
  induction R with
  | head => intro cl D; cases D with | cons d r => exact ⟨_, _, d, r, List.Perm.refl _⟩
  | tail _ ih =>
    intro cl D
    cases D with
    | @cons a o l0 r l' d r =>
      obtain ⟨l, cr, h1, h2, h3⟩ := ih r
      refine ⟨l, l0 ++ cr, h1, .cons d h2, ?_⟩
      exact (List.Perm.append_left l0 h3).trans (by rw [← List.append_assoc, ← List.append_assoc]; exact List.Perm.append_right _ List.perm_append_comm)
  | skip _ ih =>
    intro cl D
    obtain ⟨x, y, rfl, hx, hy⟩ := D.unapp
    obtain ⟨l, cr, h1, h2, h3⟩ := ih hy
    refine ⟨l, x ++ cr, h1, hx.app h2, ?_⟩
    exact (List.Perm.append_left x h3).trans (by rw [← List.append_assoc, ← List.append_assoc]; exact List.Perm.append_right _ List.perm_append_comm)
theorem RemL.den {w : World} {T : ALed} {led led' : ALed} (R : RemL T led led') : ∀ {cl : Led}, DenL w led cl → ∃ l cr, DenL w T l ∧ DenL w led' cr ∧ cl.Perm (l ++ cr) := by
  induction R with
  | head => intro cl D; obtain ⟨x, y, rfl, hx, hy⟩ := D.unapp; exact ⟨_, _, hx, hy, List.Perm.refl _⟩
  | all => intro cl D; exact ⟨_, [], D, .nil, by rw [List.append_nil]⟩
  | tail _ ih =>
    intro cl D
    cases D with
    | @cons a o l0 r l' d r =>
      obtain ⟨l, cr, h1, h2, h3⟩ := ih r
      refine ⟨l, l0 ++ cr, h1, .cons d h2, ?_⟩
      exact (List.Perm.append_left l0 h3).trans (by rw [← List.append_assoc, ← List.append_assoc]; exact List.Perm.append_right _ List.perm_append_comm)
  | skip _ ih =>
    intro cl D
    obtain ⟨x, y, rfl, hx, hy⟩ := D.unapp
    obtain ⟨l, cr, h1, h2, h3⟩ := ih hy
    refine ⟨l, x ++ cr, h1, hx.app h2, ?_⟩
    exact (List.Perm.append_left x h3).trans (by rw [← List.append_assoc, ← List.append_assoc]; exact List.Perm.append_right _ List.perm_append_comm)
theorem Split.den {w : World} {led foot rest : ALed} (S : Split led foot rest) : ∀ {cl : Led}, DenL w led cl → ∃ cf cr, DenL w foot cf ∧ DenL w rest cr ∧ cl.Perm (cf ++ cr) := by
  induction S with
  | nil => intro cl D; exact ⟨[], cl, .nil, D, List.Perm.refl _⟩
  | cons R _ ih =>
    intro cl D
    obtain ⟨l, cr, h1, h2, h3⟩ := R.den D
    obtain ⟨cf, cr', g1, g2, g3⟩ := ih h2
    exact ⟨l ++ cf, cr', .cons h1 g1, g2, h3.trans (by rw [List.append_assoc]; exact List.Perm.append_left l g3)⟩
  | app R _ ih =>
    intro cl D
    obtain ⟨l, cr, h1, h2, h3⟩ := R.den D
    obtain ⟨cf, cr', g1, g2, g3⟩ := ih h2
    exact ⟨l ++ cf, cr', h1.app g1, g2, h3.trans (by rw [List.append_assoc]; exact List.Perm.append_left l g3)⟩
  | last R => intro cl D; exact R.den D
theorem news_perm {h₀ h : Heap} {L : Addr} {a b : Led} (N : News h₀ L h a) (P : a.Perm b) : News h₀ L h b := fun p hp => N p (P.mem_iff.mpr hp)
theorem St.split {F : Fn} {c : Cx} {lo : Lo} {led foot rest : ALed} {s : Shared} (h : St F c lo led s) (S : Split led foot rest) : St F c lo (foot ++ rest) s := by
  obtain ⟨sm, lk, m, cl, Fm, hlo, D, N, nd⟩ := h
  obtain ⟨cf, cr, d1, d2, P⟩ := S.den D
  exact ⟨sm, lk, m, _, Fm, hlo, d1.app d2, news_perm N P, (P.map (·.1)).nodup_iff.mp nd⟩
theorem St.front {F : Fn} {c : Cx} {lo : Lo} {foot rest : ALed} {s : Shared} (h : St F c lo (foot ++ rest) s) : St F c lo foot s := by
  obtain ⟨sm, lk, m, cl, Fm, hlo, D, N, nd⟩ := h
  obtain ⟨x, y, rfl, d1, d2⟩ := D.unapp
  rw [List.map_append] at nd
  exact ⟨sm, lk, m, x, Fm, hlo, d1, fun p hp => N p (List.mem_append_left _ hp), (List.nodup_append.mp nd).1⟩
inductive ExP (F : Fn) (c : Cx) (lo : Lo) (P : Value → ALed → Prop) (v' : Value) (s' : Shared) : Prop
  | mk (v : Value) (led' : ALed) (q : VEq v v') (S : St F c lo led' s') (k : P v led')
noncomputable def Ex (F : Fn) (lev : Nat) (c : Cx) (lo : Lo) (led : ALed) (e : Expr) (P : Value → ALed → Prop) : Prop :=
  Ok F lev c → ∀ s, St F c lo led s → ∀ E, wpAny (model PG c.w) (c.A F) (eval e (c.env F)) (fun v' s' => ExP F c lo P v' s') E s
structure Fl where
  next : Lo → ALed → Prop
  ret : Value → ALed → Prop
  brk : Lo → ALed → Prop
  cnt : Lo → ALed → Prop
noncomputable def Fl.post (F : Fn) (c : Cx) (Φ : Fl) : Flow → Shared → Prop
  | .next, s => ∃ lo led, St F c lo led s ∧ Φ.next lo led
  | .brk, s => ∃ lo led, St F c lo led s ∧ Φ.brk lo led
  | .cont, s => ∃ lo led, St F c lo led s ∧ Φ.cnt lo led
  | .ret v', s => ∃ v lo led, VEq v v' ∧ St F c lo led s ∧ Φ.ret v led
noncomputable def X (F : Fn) (lev : Nat) (c : Cx) (Φ : Fl) (lo : Lo) (led : ALed) (body : List Stmt) : Prop :=
  Ok F lev c → ∀ s, St F c lo led s → ∀ E, wpAny (model PG c.w) (c.A F) (execs body (c.env F)) (Φ.post F c) E s
noncomputable def Fl.then (F : Fn) (lev : Nat) (c : Cx) (Φ : Fl) (rest : List Stmt) : Fl := { Φ with next := fun lo led => X F lev c Φ lo led rest }
noncomputable def Fl.fn (K : Value → ALed → Prop) : Fl := ⟨fun _ led => K .none led, K, fun _ _ => False, fun _ _ => False⟩
section
variable {F : Fn} {lev : Nat} {c : Cx} {lo : Lo} {led : ALed} {Φ : Fl} {rest : List Stmt}
theorem Ex.ev {e : Expr} {v : Value} {P : Value → ALed → Prop} (h : Ev F lev c lo led e v) (k : P v led) : Ex F lev c lo led e P := fun ok s S E => h ok s S _ _ fun _ _ q S' => ⟨v, led, q, S', k⟩
theorem X.nil (h : Φ.next lo led) : X F lev c Φ lo led [] := fun _ s S _ => wpAny_execs_nil ⟨lo, led, S, h⟩
theorem X.step {st : Stmt} (h : Ok F lev c → ∀ s, St F c lo led s → ∀ E, wpAny (model PG c.w) (c.A F) (exec st (c.env F)) ((Φ.then F lev c rest).post F c) E s) : X F lev c Φ lo led (st :: rest) := fun ok s S E =>
  wpAny_execs_cons (wpAny_mono (h ok s S E) (fun f s' h' => by
    cases f with
    | next => obtain ⟨lo', led', S', k⟩ := h'; exact k ok s' S' E
    | brk => exact h'
    | cont => exact h'
    | ret v => exact h') fun _ _ x => x)
noncomputable def kindN : Expr → Nat
  | .ListComp .. | .SetComp .. | .DictComp .. => 1
  | .Starred .. => 2
  | .Name .. | .Attribute .. | .Subscript .. => 3
  | .Call .. => 4
  | _ => 0
noncomputable def noComp (e : Expr) : Bool := !(kindN e).beq 1
theorem swaps_no {e : Expr} (h : noComp e = true) (t : Option Expr) (l : Nat) (env : Env) : swapsWith e t l env = pure false := by
  cases e <;> first | rfl | cases h
inductive SetL (x : Str) (v : Value) : Lo → Lo → Prop
  | head {u r} : SetL x v ((x, u) :: r) ((x, some v) :: r)
  | tail {p r r'} : SetL x v r r' → SetL x v (p :: r) (p :: r')
theorem SetL.names {x : Str} {v : Value} {a b : Lo} (h : SetL x v a b) : b.map (·.1) = a.map (·.1) := by
  induction h with
  | head => rfl
  | tail _ ih => rw [List.map_cons, List.map_cons, ih]
theorem SetL.mem {x : Str} {v : Value} {a b : Lo} (h : SetL x v a b) : x ∈ a.map (·.1) := by
  induction h with
  | head => exact .head _
  | tail _ ih => exact .tail _ ih
theorem SetL.cases {x : Str} {v : Value} {a b : Lo} (h : SetL x v a b) (nd : (a.map (·.1)).Nodup) {y : Str} {u : Value} (m : (y, some u) ∈ b) : (y = x ∧ u = v) ∨ (y ≠ x ∧ (y, some u) ∈ a) := by
  induction h with
  | head =>
    cases m with
    | head => exact .inl ⟨rfl, rfl⟩
    | tail _ m =>
      rw [List.map_cons, List.nodup_cons] at nd
      exact .inr ⟨fun e => nd.1 (by rw [← e]; exact List.mem_map_of_mem (f := (·.1)) m), .tail _ m⟩
  | tail h ih =>
    rw [List.map_cons, List.nodup_cons] at nd
    cases m with
    | head => exact .inr ⟨fun e => nd.1 (by rw [show _ = _ from e]; exact h.mem), .head _⟩
    | tail _ m =>
      rcases ih nd.2 m with q | ⟨q1, q2⟩
      · exact .inl q
      · exact .inr ⟨q1, .tail _ q2⟩
theorem SetL.ok {x : Str} {v : Value} {a b : Lo} (h : SetL x v a b) (k : LoOk F a) : LoOk F b := by
  unfold LoOk
  rw [h.names]
  exact k
theorem St.store {x : Str} {v v' : Value} {lo' : Lo} (ok : Ok F lev c) (hx : SetL x v lo lo') (hv : VEq v v') {s : Shared} (S : St F c lo led s) {Q : Unit → Shared → Prop} {E : Value → Shared → Prop} {A : Around}
    (h : ∀ s', St F c lo' led s' → Q () s') : wpAny (model PG c.w) A (storeName (c.env F) x v') Q E s := by
  obtain ⟨sm, lk, m, cl, Fm, hlo, D, N, nd⟩ := S
  refine st_L Fm N (fun h' F' N' => h _ ⟨sm.upd _ _, hx.ok lk, _, cl, F', fun y u e => ?_, D, N', nd⟩) ok.k (of_decide_eq_true (Bool.and_eq_true_iff.mp (lk.2 x hx.mem)).1)
  rcases hx.cases lk.1 e with ⟨rfl, rfl⟩ | ⟨q1, q2⟩
  · exact ⟨v', by rw [if_pos rfl], hv⟩
  · obtain ⟨u', g1, g2⟩ := hlo y u q2
    exact ⟨u', by rw [if_neg q1]; exact g1, g2⟩
theorem X.assign {x : Str} {p pos : Pos} {e : Expr} {v : Value} {lo' : Lo} (hx : SetL x v lo lo') (hc : noComp e = true) (h : Ev F lev c lo led e v) (k : X F lev c Φ lo' led rest) : X F lev c Φ lo led (.Assign [.Name x p] e pos :: rest) :=
  X.step fun ok s S E => wpAny_Assign_Name (h ok s S _ _ fun v' s' q S' => St.store ok hx q S' fun s₂ S₂ => ⟨_, _, S₂, k⟩) (swaps_no hc _ _ _)
theorem X.assignE {x : Str} {p pos : Pos} {e : Expr} (hc : noComp e = true) (h : Ex F lev c lo led e fun v led' => ∃ lo', SetL x v lo lo' ∧ X F lev c Φ lo' led' rest) : X F lev c Φ lo led (.Assign [.Name x p] e pos :: rest) :=
  X.step fun ok s S E => wpAny_Assign_Name (wpAny_mono (h ok s S E) (fun v' s' ⟨v, led', q, S', lo', hx, k⟩ => St.store ok hx q S' fun s₂ S₂ => ⟨_, _, S₂, k⟩) fun _ _ x => x) (swaps_no hc _ _ _)
theorem int_no {env : Env} (h : env.scope.kind = .function) : interactive env = false := by
  unfold interactive
  rw [h]
  rfl
theorem X.expr {e : Expr} {pos : Pos} (hc : noComp e = true) (h : Ex F lev c lo led e fun _ led' => X F lev c Φ lo led' rest) : X F lev c Φ lo led (.Expr e pos :: rest) :=
  X.step fun ok s S E => wpAny_Expr_any (wpAny_mono (h ok s S E) (fun v' s' ⟨v, led', q, S', k⟩ => ⟨_, _, S', k⟩) fun _ _ x => x) (int_no ok.k) (swaps_no hc _ _ _)
theorem X.retE {e : Expr} {pos : Pos} (h : Ex F lev c lo led e Φ.ret) : X F lev c Φ lo led (.Return (some e) pos :: rest) :=
  X.step fun ok s S E => wpAny_Return_some (wpAny_mono (h ok s S E) (fun v' s' ⟨v, led', q, S', k⟩ => ⟨v, lo, led', q, S', k⟩) fun _ _ x => x)
theorem X.ret {e : Expr} {pos : Pos} {v : Value} {led' r' : ALed} (h : Ev F lev c lo led e v) (S : Split led led' r') (k : Φ.ret v led') : X F lev c Φ lo led (.Return (some e) pos :: rest) :=
  X.step fun ok s S0 E => wpAny_Return_some (h ok s S0 _ _ fun v' s' q S' => ⟨v, lo, led', q, (S'.split S).front, k⟩)
theorem X.fin {led' r' : ALed} (S : Split led led' r') (k : Φ.next lo led') : X F lev c Φ lo led [] := fun _ s S0 _ => wpAny_execs_nil ⟨lo, led', (S0.split S).front, k⟩
noncomputable def Ts (F : Fn) (lev : Nat) (c : Cx) (lo : Lo) (led : ALed) (e : Expr) (p : Bool) : Prop :=
  Ok F lev c → ∀ s, St F c lo led s → ∀ Q E, (∀ s', St F c lo led s' → Q p s') → wpAny (model PG c.w) (c.A F) (isTrue e (c.env F) (eval e (c.env F))) Q E s
theorem X.ite {t : Expr} {a b : List Stmt} {pos : Pos} {p : Prop} {dp : Decidable p} (h : Ts F lev c lo led t (decide p)) (h1 : p → X F lev c (Φ.then F lev c rest) lo led a) (h2 : ¬ p → X F lev c (Φ.then F lev c rest) lo led b) : X F lev c Φ lo led (.If t a b pos :: rest) :=
  X.step fun ok s S E => wpAny_If (h ok s S _ _ fun s' S' => by
    by_cases hp : p
    · rw [decide_eq_true hp]; exact h1 hp ok s' S' E
    · rw [decide_eq_false hp]; exact h2 hp ok s' S' E)
theorem X.iteT {t : Expr} {a b : List Stmt} {pos : Pos} (h : Ts F lev c lo led t true) (h1 : X F lev c (Φ.then F lev c rest) lo led a) : X F lev c Φ lo led (.If t a b pos :: rest) :=
  X.step fun ok s S E => wpAny_If (h ok s S _ _ fun s' S' => h1 ok s' S' E)
theorem X.iteF {t : Expr} {a b : List Stmt} {pos : Pos} (h : Ts F lev c lo led t false) (h1 : X F lev c (Φ.then F lev c rest) lo led b) : X F lev c Φ lo led (.If t a b pos :: rest) :=
  X.step fun ok s S E => wpAny_If (h ok s S _ _ fun s' S' => h1 ok s' S' E)
end
end
section
open PySem PySem.W PySem.Calls PyProof.Rows PySem.Spec
inductive SetF (n : Str) (v : Value) : Fields → Fields → Prop
  | head {u r} : SetF n v ((n, u) :: r) ((n, v) :: r)
  | tail {p r r'} : SetF n v r r' → SetF n v (p :: r) (p :: r')
theorem SetF.names {n : Str} {v : Value} {a b : Fields} (h : SetF n v a b) : b.map (·.1) = a.map (·.1) := by
  induction h with
  | head => rfl
  | tail _ ih => rw [List.map_cons, List.map_cons, ih]
theorem SetF.mem {n : Str} {v : Value} {a b : Fields} (h : SetF n v a b) : n ∈ a.map (·.1) := by
  induction h with
  | head => exact .head _
  | tail _ ih => exact .tail _ ih
theorem SetF.len {n : Str} {v : Value} {a b : Fields} (h : SetF n v a b) : b.length = a.length := by
  have := congrArg List.length h.names
  rwa [List.length_map, List.length_map] at this
theorem FsEq.len {w : World} {fs : Fields} {es : List DictEntry} (h : FsEq w fs es) : fs.length = es.length := by
  induction h with
  | nil => rfl
  | cons _ _ ih => simp [ih]
theorem isStr_ne {a n : Str} {t : Tok} (h : a ≠ n) : Value.isStr (.str a t) n = false := by
  show (a == n) = false
  cases q : a == n with
  | false => rfl
  | true => exact absurd (eq_of_beq q) h
theorem isStr_eq {n : Str} {t : Tok} : Value.isStr (.str n t) n = true := beq_self_eq_true n
theorem SetF.put {w : World} {n : Str} {v v' : Value} {a b : Fields} (h : SetF n v a b) (nd : (a.map (·.1)).Nodup) (q : VEq v v') (hk : Int) (key : Value) : ∀ {es : List DictEntry}, FsEq w a es → FsEq w b (putL n hk key v' es) ∧ (getL n es).isSome = true := by
  induction h with
  | head =>
    intro es he
    cases he with
    | @cons _ _ t _ _ r' hv hr =>
      unfold putL getL
      rw [List.find?_cons]
      dsimp only
      rw [isStr_eq, if_pos rfl]
      exact ⟨.cons q hr, rfl⟩
  | @tail p r r' h ih =>
    intro es he
    rw [List.map_cons, List.nodup_cons] at nd
    cases he with
    | @cons n₁ _ t _ _ r' hv hr =>
      have hne : n₁ ≠ n := fun e => nd.1 (by rw [show (n₁, _).1 = n from e]; exact h.mem)
      obtain ⟨h1, h2⟩ := ih nd.2 hr
      unfold putL getL
      rw [List.find?_cons]
      dsimp only
      rw [isStr_ne hne]
      dsimp only
      rw [if_neg Bool.false_ne_true]
      refine ⟨.cons hv h1, ?_⟩
      unfold getL at h2
      revert h2
      cases List.find? (fun x => x.key.isStr n) r' with
      | some y => exact id
      | none =>
        dsimp only
        intro h2
        rw [List.any_cons]
        have : DictEntry.refKey ⟨PyData.keyHash w.params n₁, .str n₁ t, ‹Value›⟩ = false := rfl
        rw [this, Bool.false_or]
        exact h2
inductive Rep (x : Addr) (o o' : AO) : ALed → ALed → Prop
  | head {r} : Rep x o o' ((x, o) :: r) ((x, o') :: r)
  | tail {p r r'} : Rep x o o' r r' → Rep x o o' (p :: r) (p :: r')
  | skip {T r r'} : Rep x o o' r r' → Rep x o o' (T ++ r) (T ++ r')
theorem Rep.den {w : World} {x : Addr} {o o' : AO} {led led' : ALed} (R : Rep x o o' led led') : ∀ {cl : Led}, DenL w led cl → ∃ pre l post, cl = pre ++ (l ++ post) ∧ Den w x o l ∧ ∀ l', Den w x o' l' → DenL w led' (pre ++ (l' ++ post)) := by
  induction R with
  | head => intro cl D; cases D with | cons d r => exact ⟨[], _, _, rfl, d, fun l' h => by show DenL w _ (l' ++ _); exact .cons h r⟩
  | tail _ ih =>
    intro cl D
    cases D with
    | cons d r =>
      obtain ⟨pre, l, post, rfl, h1, h2⟩ := ih r
      exact ⟨_ ++ pre, l, post, (List.append_assoc ..).symm, h1, fun l' h => by rw [List.append_assoc]; exact .cons d (h2 l' h)⟩
  | skip _ ih =>
    intro cl D
    obtain ⟨a, b, rfl, ha, hb⟩ := D.unapp
    obtain ⟨pre, l, post, rfl, h1, h2⟩ := ih hb
    exact ⟨a ++ pre, l, post, (List.append_assoc ..).symm, h1, fun l' h => by rw [List.append_assoc]; exact ha.app (h2 l' h)⟩
theorem upd_of {d : Addr} {o o' : Obj} : ∀ {pre post : Led}, (∀ p ∈ pre, p.1 ≠ d) → (∀ p ∈ post, p.1 ≠ d) → Upd d o o' (pre ++ (d, o) :: post) (pre ++ (d, o') :: post)
  | [], _, _, h => .head h
  | _ :: _, _, h1, h2 => .tail (h1 _ (.head _)) (upd_of (fun p hp => h1 p (.tail _ hp)) h2)
theorem nodup_mid {d : Addr} {o : Obj} {pre post : Led} (nd : ((pre ++ (d, o) :: post).map (·.1)).Nodup) : (∀ p ∈ pre, p.1 ≠ d) ∧ (∀ p ∈ post, p.1 ≠ d) := by
  rw [List.map_append, List.map_cons, List.nodup_append] at nd
  refine ⟨fun p hp e => ?_, fun p hp e => ?_⟩
  · exact nd.2.2 p.1 (List.mem_map_of_mem (f := (·.1)) hp) d (.head _) e
  · rw [List.nodup_cons] at nd
    exact nd.2.1.1 (by rw [← e]; exact List.mem_map_of_mem (f := (·.1)) hp)
section
variable {F : Fn} {lev : Nat} {c : Cx} {lo : Lo} {led : ALed} {Φ : Fl} {rest : List Stmt}
theorem setA {x C : Addr} {fs fs' : Fields} {attr : Str} {v v' : Value} {led' : ALed} (ok : Ok F lev c) (hR : Rep x (.inst C fs) (.inst C fs') led led') (hf : SetF attr v fs fs') (hz : Nat.ble fs.length 1000 = true)
    (h1 : findIn (Mine.fr0.heap_1 c.w.params) (.ref C) "__setattr__" = some (some (.builtin "object.__setattr__"))) (h2 : plainOver (Mine.fr0.heap_1 c.w.params) C = true) (h3 : takerIn (Mine.fr0.heap_1 c.w.params) C attr = some none) (h4 : hasDictIn (Mine.fr0.heap_1 c.w.params) C = true)
    (q : VEq v v') {s : Shared} (S : St F c lo led s) {Q : Unit → Shared → Prop} {E : Value → Shared → Prop} {A : Around} (h : ∀ s', St F c lo led' s' → Q () s') : wpAny (model PG c.w) A (setAttr (.ref x) attr v') Q E s := by
  obtain ⟨sm, lk, m, cl, Fm, hlo, D, N, nd⟩ := S
  obtain ⟨pre, l, post, rfl, d, k⟩ := hR.den D
  cases d with
  | @inst _ _ dx es n he hn =>
    obtain ⟨g1, g2⟩ := hf.put hn q (PyData.keyHash c.w.params attr) (.str attr (s.toks + 1)) he
    have e1 : pre ++ ([(x, instObj C dx), (dx, dictOf es n)] ++ post) = (pre ++ [(x, instObj C dx)]) ++ (dx, dictOf es n) :: post := by simp
    rw [e1] at N nd
    obtain ⟨n1, n2⟩ := nodup_mid nd
    refine set_dict (es' := putL attr (PyData.keyHash c.w.params attr) (.str attr (s.toks + 1)) v' es) Fm ok.X N (InstAt.of_news N (List.mem_append_left _ (List.mem_append_right _ (.head _))) (List.mem_append_right _ (.head _))) rfl h1 h2 h3 h4 g2 rfl (upd_of n1 n2) ?_ fun h' F' N' => h _ ⟨sm.upd _ _, lk, m, _, F', hlo, k _ (Den.inst (dx := dx) (n := putN attr es n) g1 (by rw [hf.names]; exact hn)), ?_, ?_⟩
    · rw [← g1.len, hf.len]; exact Nat.le_of_ble_eq_true hz
    · have e2 : pre ++ ([(x, instObj C dx), (dx, dictOf (putL attr (PyData.keyHash c.w.params attr) (.str attr (s.toks + 1)) v' es) (putN attr es n))] ++ post) = (pre ++ [(x, instObj C dx)]) ++ (dx, dictOf (putL attr (PyData.keyHash c.w.params attr) (.str attr (s.toks + 1)) v' es) (putN attr es n)) :: post := by simp
      rw [e2]; exact N'
    · have e3 : ((pre ++ ([(x, instObj C dx), (dx, dictOf (putL attr (PyData.keyHash c.w.params attr) (.str attr (s.toks + 1)) v' es) (putN attr es n))] ++ post)).map (·.1)) = (((pre ++ [(x, instObj C dx)]) ++ (dx, dictOf es n) :: post).map (·.1)) := by simp
      rw [e3]; exact nd
theorem X.setattr {t e : Expr} {attr : Str} {p pos : Pos} {x C : Addr} {fs fs' : Fields} {v : Value} {led' : ALed} (he : Ev F lev c lo led e v) (ht : Ev F lev c lo led t (.ref x)) (hR : Rep x (.inst C fs) (.inst C fs') led led') (hf : SetF attr v fs fs')
    (hc : noComp e = true) (hz : Nat.ble fs.length 1000 = true)
    (h1 : findIn (Mine.fr0.heap_1 c.w.params) (.ref C) "__setattr__" = some (some (.builtin "object.__setattr__"))) (h2 : plainOver (Mine.fr0.heap_1 c.w.params) C = true) (h3 : takerIn (Mine.fr0.heap_1 c.w.params) C attr = some none) (h4 : hasDictIn (Mine.fr0.heap_1 c.w.params) C = true)
    (k : X F lev c Φ lo led' rest) : X F lev c Φ lo led (.Assign [.Attribute t attr p] e pos :: rest) :=
  X.step fun ok s S E => plainObj_wpAny_Assign_Attribute (he ok s S _ _ fun v' s' q S' => ht ok s' S' _ _ fun ov s2 q2 S2 => by
    cases q2.ref_inv
    exact setA ok hR hf hz h1 h2 h3 h4 q S2 fun s3 S3 => ⟨lo, led', S3, k⟩) (swaps_no hc _ _ _)
noncomputable def HSpec (lev : Nat) (f : Addr) (vs : List Value) (foot : ALed) (Post : (Value → ALed → Prop) → Prop) : Prop :=
  ∀ (w : World) (mean : ExcName → Option Value) (mg mb : Str → Option Value) (dp un : Nat) (gd : Option (List Code)) (env : Env) (outer : List Env) (A₀ : Around) (base h₀ : Heap) (L : Addr) (m : Str → Option Value) (s : Shared) (R : Result → Shared → Prop) (vs' : List Value) (cl : Led) (K : Value → ALed → Prop),
    Below A₀ base outer h₀ → Fr h₀ L s.heap m → (Mine.fr0.heap_1 w.params).In h₀ → Top VW LO mean mg mb h₀ → env.scope.kind = .function → env.frame = some L → dp + lev < recursionLimit → un + 20 * lev < cLine →
    VsEq vs vs' → DenL w foot cl → News h₀ L s.heap cl → (cl.map (·.1)).Nodup → Post K →
    (∀ v v' led cl' h' tk', K v led → VEq v v' → Fr h₀ L h' m → DenL w led cl' → News h₀ L h' cl' → (cl'.map (·.1)).Nodup → Kept s.heap h' (cl.map (·.1)) → Fresh s.heap cl cl' → R (.ok (.ret v')) { s with heap := h', toks := tk' }) →
    codeAny (model PG w) { handled := none, depth := dp, frames := some (env :: outer), guards := gd, units := un } (.call (.ref f) ⟨vs', []⟩) R s
theorem callS {f : Addr} {vs vs' : List Value} {foot r : ALed} {Post : (Value → ALed → Prop) → Prop} {P : Value → ALed → Prop} {lf : Nat} (ok : Ok F lev c) (H : HSpec lf f vs foot Post) (hl : okLev lf lev = true) (q : VsEq vs vs') (Sp : Split led foot r) (hp : Post fun v led' => P v (led' ++ r))
    {s : Shared} (S : St F c lo led s) {E : Value → Shared → Prop} : wpAny (model PG c.w) (c.A F) (call (.ref f) vs' []) (fun v' s' => ExP F c lo P v' s') E s := by
  obtain ⟨sm, lk, m, cl, Fm, hlo, D, N, nd⟩ := S.split Sp
  obtain ⟨cf, cr, rfl, d1, d2⟩ := D.unapp
  rw [List.map_append] at nd
  have hlv := okLev_le hl
  have nd' := List.nodup_append.mp nd
  have Nf : News c.g c.L s.heap cf := fun p hp => N p (List.mem_append_left _ hp)
  refine wpAny_call (H c.w c.mean c.mg c.mb c.dp c.un c.gd c.top c.outer c.A₀ c.base c.g c.L m s _ vs' cf _ ok.B Fm ok.X ok.T (ok.f (okLev_pos hl)).2 (ok.f (okLev_pos hl)).1 (Nat.lt_of_le_of_lt (Nat.add_le_add_left hlv _) ok.d) (Nat.lt_of_le_of_lt (Nat.add_le_add_left (Nat.mul_le_mul_left _ hlv) _) ok.u) q d1 Nf nd'.1 hp ?_)
  intro v v' led₁ cl' h' tk' hK hv F' D' N' nd₂ Kp Fs
  refine ⟨v, _, hv, ⟨sm.upd _ _, lk, m, cl' ++ cr, F', hlo, D'.app d2, fun p hp => ?_, ?_⟩, hK⟩
  · rcases List.mem_append.mp hp with hp | hp
    · exact N' p hp
    · have z := N p (List.mem_append_right _ hp)
      exact ⟨Kp _ _ z.1 fun hm => nd'.2.2 _ hm _ (List.mem_map_of_mem (f := (·.1)) hp) rfl, z.2⟩
  · rw [List.map_append]
    refine List.nodup_append.mpr ⟨nd₂, nd'.2.1, fun a ha b hb e => ?_⟩
    subst e
    obtain ⟨p, hp, rfl⟩ := List.mem_map.mp ha
    obtain ⟨p2, hp2, e2⟩ := List.mem_map.mp hb
    rcases Fs p hp with z | z
    · exact nd'.2.2 _ z _ hb rfl
    · have := (N p2 (List.mem_append_right _ hp2)).1
      rw [e2, z] at this
      cases this
end
end
section
open PySem PySem.W PySem.Calls PyProof.Rows PySem.Spec
inductive MkLo : List Str → List Value → List Str → Lo → Prop
  | nil : MkLo [] [] [] []
  | arg {n ns v vs os lo} : MkLo ns vs os lo → MkLo (n :: ns) (v :: vs) os ((n, some v) :: lo)
  | loc {o os lo} : MkLo [] [] os lo → MkLo [] [] (o :: os) ((o, none) :: lo)
theorem MkLo.names {ns : List Str} {vs : List Value} {os : List Str} {lo : Lo} (h : MkLo ns vs os lo) : lo.map (·.1) = ns ++ os := by
  induction h with
  | nil => rfl
  | arg _ ih => rw [List.map_cons, ih]; rfl
  | loc _ ih => rw [List.map_cons, ih]; rfl
theorem MkLo.len {ns : List Str} {vs : List Value} {os : List Str} {lo : Lo} (h : MkLo ns vs os lo) : vs.length = ns.length := by
  induction h with
  | nil => rfl
  | arg _ ih => simp [ih]
  | loc _ ih => rfl
theorem MkLo.mem {ns : List Str} {vs : List Value} {os : List Str} {lo : Lo} (h : MkLo ns vs os lo) : ∀ {vs' : List Value}, VsEq vs vs' → ∀ {x v}, (x, some v) ∈ lo → ∃ v', (x, v') ∈ ns.zip vs' ∧ VEq v v' := by
  induction h with
  | nil => intro _ _ _ _ m; cases m
  | arg _ ih =>
    intro vs' q x v m
    cases q with
    | cons q1 q2 =>
      cases m with
      | head => exact ⟨_, .head _, q1⟩
      | tail _ m =>
        obtain ⟨v', h1, h2⟩ := ih q2 m
        exact ⟨v', .tail _ h1, h2⟩
  | loc _ ih =>
    intro vs' q x v m
    cases q
    cases m with
    | tail _ m => exact ih .nil m
noncomputable def namesOk (F : Fn) (ns : List Str) : Bool := decide ns.Nodup && ns.all fun x => isLoc F x
theorem zip_keys {ns : List Str} {vs : List Value} (h : vs.length = ns.length) : (ns.zip vs).map (·.1) = ns := List.map_fst_zip (Nat.le_of_eq h.symm)
theorem lookup_rev : ∀ {l : List (Str × Value)}, (l.map (·.1)).Nodup → ∀ {x v}, (x, v) ∈ l → l.reverse.lookup x = some v := by
  intro l nd x v h
  have nd' : (l.reverse.map (·.1)).Nodup := by rw [List.map_reverse]; exact (List.reverse_perm _).nodup_iff.mpr nd
  have h' : (x, v) ∈ l.reverse := List.mem_reverse.mpr h
  generalize l.reverse = r at nd' h'
  induction r with
  | nil => cases h'
  | cons p r ih =>
    rw [List.map_cons, List.nodup_cons] at nd'
    cases h' with
    | head => rw [List.lookup_cons, beq_self_eq_true]
    | tail _ m =>
      rw [List.lookup_cons]
      have : (x == p.1) = false := by
        cases q : x == p.1 with
        | false => rfl
        | true => exact absurd (List.mem_map_of_mem (f := (·.1)) m) (by rw [show (x, v).1 = p.1 from eq_of_beq q]; exact nd'.1)
      rw [this]
      exact ih nd'.2 m
theorem Sim.of (s : Shared) (hp : Heap) (n : Nat) : Sim s { s with heap := hp, toks := n } := rfl
theorem HSpec.intro {lev : Nat} {f : Addr} {vs : List Value} {foot : ALed} {Post : (Value → ALed → Prop) → Prop} {name qual : Str} {params : Arguments} {body : List Stmt} {scope : Scope} {dV kV doc pm cdv ct oc : Value} {an od : Option Addr} {osl : Array (Option Value)} (ns os : List Str) {lo : Lo}
    (ho : ∀ w : World, (Mine.fr0.heap_1 w.params).lookup f = some ⟨oc, od, .func (fnOf name qual params body scope dV kV doc pm an cdv ct), osl⟩) (hcd : ∀ w : World, codeIn (Mine.fr0.heap_1 w.params) cdv qual = true)
    (hb : ∀ vs' : List Value, vs'.length = ns.length → bindArgs (fnOf name qual params body scope dV kV doc pm an cdv ct) ⟨vs', []⟩ = pure (ns.zip vs')) (ml : MkLo ns vs os lo) (hn : namesOk ⟨qual ++ ".<locals>.", scope, some f, cdv⟩ (ns ++ os) = true)
    (hco : scope.isCoroutine = false) (hgen : scope.isGenerator = false) (hk : scope.kind = .function) (hcell : (scope.names.all fun x => !decide (x.2 = .cell)) = true)
    (h : ∀ (c : Cx) (K : Value → ALed → Prop), Post K → X ⟨qual ++ ".<locals>.", scope, some f, cdv⟩ lev c (Fl.fn K) lo foot body) : HSpec (lev + 1) f vs foot Post := by
  intro w mean mg mb dp un gd env outer A₀ base h₀ L m s R vs' cl K BB F X0 T hke hkf hd hu q D N nd hP hret
  obtain ⟨hn1, hn2⟩ := Bool.and_eq_true_iff.mp hn
  have hnd : (ns ++ os).Nodup := of_decide_eq_true hn1
  have hall : ∀ x ∈ ns ++ os, isLoc ⟨qual ++ ".<locals>.", scope, some f, cdv⟩ x = true := fun x hx => List.all_eq_true.mp hn2 x hx
  have hlen : vs'.length = ns.length := q.length.symm.trans ml.len
  have hzk := zip_keys hlen
  refine code_defQ (ns.zip vs') BB F X0 N T rfl hkf hke (ho w) (hcd w) (Nat.lt_of_le_of_lt (Nat.le_add_right _ _) hd) (BindsTo.of_eq (hb vs' hlen)) (fun y hy => ?_) (fun g L' h₁ FG F' N' B' X' T' hg1 hg2 => ?_) hco hgen hk (fun x hx e => ?_)
  · have hm : y.1 ∈ ns := by rw [← hzk]; exact List.mem_map_of_mem (f := (·.1)) hy
    exact of_decide_eq_true (Bool.and_eq_true_iff.mp (hall _ (List.mem_append_left _ hm))).1
  · let c : Cx := ⟨w, g, L', [], { handled := none, depth := dp, frames := some (env :: outer), guards := gd, units := un }, base, env :: outer, mean, mg, mb, dp + 1, un + 3, gd, s, some L', envX qual scope L' f cdv []⟩
    have ok : Ok ⟨qual ++ ".<locals>.", scope, some f, cdv⟩ lev c := ⟨X', T', B', hk, by show dp + 1 + lev < _; omega, by show un + 3 + 20 * lev < _; omega, fun _ => ⟨rfl, hk⟩⟩
    have nsk : (ns.Nodup) := (List.nodup_append.mp hnd).1
    refine wpAny_mono (h c K hP ok _ ⟨Sim.of s _ _, ⟨by rw [ml.names]; exact hnd, by rw [ml.names]; exact hall⟩, _, cl, F', fun x v hm => ?_, D, N', nd⟩ _) (fun fl s' hs => ?_) fun _ _ y => y
    · obtain ⟨v', h1, h2⟩ := ml.mem q hm
      exact ⟨v', lookup_rev (by rw [hzk]; exact nsk) h1, h2⟩
    · have fin : ∀ {v v' : Value} {lo' : Lo} {led' : ALed}, K v led' → VEq v v' → St ⟨qual ++ ".<locals>.", scope, some f, cdv⟩ c lo' led' s' → LeaveK h₀ L m g R v' s' := by
        intro v v' lo' led' hK hv ⟨sm, lk, m', cl', F₂, hlo, D₂, N₂, nd₂⟩
        refine leaveK_ F₂ N₂ fun kF kN => ?_
        have e : s' = { s with heap := s'.heap, toks := s'.toks } := sm
        rw [e]
        exact hret v v' led' cl' s'.heap s'.toks hK hv kF D₂ kN nd₂ (fun b o e n => F₂.keep b o (hg1 b o e n)) fun p hp => hg2 _ (N₂ p hp).2.2
      cases fl with
      | next => obtain ⟨lo', led', S', k⟩ := hs; exact fin k (.refl _) S'
      | brk => obtain ⟨_, _, _, k⟩ := hs; exact k.elim
      | cont => obtain ⟨_, _, _, k⟩ := hs; exact k.elim
      | ret v' => obtain ⟨v, lo', led', hv, S', k⟩ := hs; exact fin k hv S'
  · have := List.all_eq_true.mp hcell x hx
    rw [e] at this
    cases this
theorem arity0 {P : List Value → Prop} (h : P []) : ∀ vs : List Value, vs.length = 0 → P vs := fun vs e => by rw [List.length_eq_zero_iff.mp e]; exact h
theorem arityS {P : List Value → Prop} {n : Nat} (h : ∀ a, ∀ vs : List Value, vs.length = n → P (a :: vs)) : ∀ vs : List Value, vs.length = n + 1 → P vs
  | [], e => (Nat.succ_ne_zero n e.symm).elim
  | a :: vs, e => h a vs (Nat.succ.inj e)
theorem arity1 {P : List Value → Prop} (h : ∀ a, P [a]) : ∀ vs : List Value, vs.length = 1 → P vs := arityS fun a => arity0 (h a)
theorem arity2 {P : List Value → Prop} (h : ∀ a b, P [a, b]) : ∀ vs : List Value, vs.length = 2 → P vs := arityS fun a => arityS fun b => arity0 (h a b)
theorem arity3 {P : List Value → Prop} (h : ∀ a b c, P [a, b, c]) : ∀ vs : List Value, vs.length = 3 → P vs := arityS fun a => arityS fun b => arityS fun c => arity0 (h a b c)
theorem arity4 {P : List Value → Prop} (h : ∀ a b c d, P [a, b, c, d]) : ∀ vs : List Value, vs.length = 4 → P vs := arityS fun a => arityS fun b => arityS fun c => arityS fun d => arity0 (h a b c d)
theorem arity5 {P : List Value → Prop} (h : ∀ a b c d e, P [a, b, c, d, e]) : ∀ vs : List Value, vs.length = 5 → P vs := arityS fun a => arityS fun b => arityS fun c => arityS fun d => arityS fun e => arity0 (h a b c d e)
theorem arity6 {P : List Value → Prop} (h : ∀ a b c d e f, P [a, b, c, d, e, f]) : ∀ vs : List Value, vs.length = 6 → P vs := arityS fun a => arityS fun b => arityS fun c => arityS fun d => arityS fun e => arityS fun f => arity0 (h a b c d e f)
theorem arity7 {P : List Value → Prop} (h : ∀ a b c d e f g, P [a, b, c, d, e, f, g]) : ∀ vs : List Value, vs.length = 7 → P vs := arityS fun a => arityS fun b => arityS fun c => arityS fun d => arityS fun e => arityS fun f => arityS fun g => arity0 (h a b c d e f g)
noncomputable def noStar (e : Expr) : Bool := !(kindN e).beq 2
theorem star_no {e : Expr} (h : noStar e = true) (rest : List Expr) (env : Env) : starEach (e :: rest) env = (false, eval e env) :: starEach rest env := by
  cases e <;> first | rfl | cases h
section
variable {F : Fn} {lev : Nat} {c : Cx} {lo : Lo} {led : ALed} {Φ : Fl} {rest : List Stmt}
inductive Evs (F : Fn) (lev : Nat) (c : Cx) (lo : Lo) (led : ALed) : List Expr → List Value → Prop
  | nil : Evs F lev c lo led [] []
  | cons {e es v vs} : noStar e = true → Ev F lev c lo led e v → Evs F lev c lo led es vs → Evs F lev c lo led (e :: es) (v :: vs)
theorem Evs.plain {es : List Expr} {vs : List Value} (h : Evs F lev c lo led es vs) (pos : Pos) (env : Env) : (backTo pos (starEach es env)).any (·.1) = false := by
  induction h with
  | nil => rfl
  | cons h _ _ ih => rw [star_no h]; exact ih
theorem Evs.run {es : List Expr} {vs : List Value} (h : Evs F lev c lo led es vs) (ok : Ok F lev c) : ∀ {s}, St F c lo led s → ∀ {pos} {Q} {E}, (∀ vs' s', VsEq vs vs' → St F c lo led s' → Q vs' s') → wpAny (model PG c.w) (c.A F) (spliced (backTo pos (starEach es (c.env F)))) Q E s := by
  induction h with
  | nil => intro s S pos Q E k; exact args_nil (k _ _ .nil S)
  | cons h h1 _ ih => intro s S pos Q E k; exact args_cons (h1 ok s S _ _ fun v' s1 q1 S1 => ih S1 fun vs' s2 q2 S2 => k _ _ (.cons q1 q2) S2) (star_no h _ _)
theorem St.In {s : Shared} (ok : Ok F lev c) (S : St F c lo led s) : (Mine.fr0.heap_1 c.w.params).In s.heap := by
  obtain ⟨_, _, _, _, Fm, _⟩ := S
  exact ok.X.keeps Fm.keep
theorem callWithS {f : Value} {first : List Value} {args : List Expr} {pos : Pos} {vs : List Value} (ok : Ok F lev c) (hk : keepIn (Mine.fr0.heap_1 c.w.params) f = true) (ha : Evs F lev c lo led args vs) {s : Shared} (S : St F c lo led s) {Q E}
    (h : ∀ vs' s', VsEq vs vs' → St F c lo led s' → wpAny (model PG c.w) (c.A F) (call f (first ++ vs')) Q E s') : wpAny (model PG c.w) (c.A F) (callWith pos f first (backTo pos (starEach args (c.env F))) []) Q E s := by
  cases ha with
  | nil => exact callWith_K0 (S.In ok) hk (h [] s .nil S)
  | cons hs h1 h2 => exact callWith_K ok.X hk ((Evs.cons hs h1 h2).run ok S fun vs' s' q S' => ⟨S'.In ok, h vs' s' q S'⟩) (star_no hs _ _) (h2.plain _ _)
noncomputable def isGlob (F : Fn) (x : Str) : Bool := decide (F.cs.names.lookup x = some .globalImplicit) && !(x == ("__debug__" : Str))
theorem eval_Call {fn : Str} {p pos : Pos} {args : List Expr} {env : Env} : eval (.Call (.Name fn p) args [] pos) env = (do callWith pos (← eval (.Name fn p) env) [] (backTo pos (starEach args env)) (backToKw pos (keywordEach [] env))) := by rfl
theorem Ex.call {fn : Str} {p pos : Pos} {args : List Expr} {vs : List Value} {f : Addr} {lf : Nat} {foot r : ALed} {Post : (Value → ALed → Prop) → Prop} {P : Value → ALed → Prop} (H : HSpec lf f vs foot Post) (ha : Evs F lev c lo led args vs) (Sp : Split led foot r)
    (hn : nsIn (Mine.fr0.heap_1 c.w.params) mainGlobals fn = some (some (.ref f))) (hk : keepIn (Mine.fr0.heap_1 c.w.params) (.ref f) = true) (hg : isGlob F fn = true) (hl : okLev lf lev = true) (hp : Post fun v led' => P v (led' ++ r)) : Ex F lev c lo led (.Call (.Name fn p) args [] pos) P := by
  intro ok s S E
  obtain ⟨g1, g2⟩ := Bool.and_eq_true_iff.mp hg
  have S0 := S
  obtain ⟨_, _, m, cl, Fm, _⟩ := S0
  refine Call_ (nm_K Fm ok.X (topRead_of ok.T) hn ?_ ok.k (of_decide_eq_true g1) (Bool.not_eq_true' _ ▸ g2)) eval_Call
  exact callWithS ok hk ha S fun vs' s' q S' => callS ok H hl q Sp hp S'
theorem FsEq.no {w : World} {fs : Fields} {es : List DictEntry} (h : FsEq w fs es) {n : Str} (e : (fs.map (·.1)).contains n = false) : getL n es = some none := by
  induction h with
  | nil => rfl
  | @cons n₁ v₁ t₁ v₁' r r' hv hr ih =>
    rw [List.map_cons, List.contains_cons, Bool.or_eq_false_iff] at e
    have := ih e.2
    unfold getL at this ⊢
    rw [List.find?_cons]
    have hq : Value.isStr (.str n₁ t₁) n = false := isStr_ne fun z => by rw [show (n₁, v₁).1 = n from z, beq_self_eq_true] at e; cases e.1
    rw [hq]
    revert this
    cases List.find? (fun x => x.key.isStr n) r' with
    | some y => exact id
    | none =>
      dsimp only
      intro h2
      rw [List.any_cons]
      have : DictEntry.refKey ⟨PyData.keyHash w.params n₁, .str n₁ t₁, v₁'⟩ = false := rfl
      rw [this, Bool.false_or]
      exact h2
noncomputable def simpleO (e : Expr) : Bool := (kindN e).beq 3
theorem ea1 {x : Str} {p : Pos} (attr : Str) (pos : Pos) (env : Env) : eval (.Attribute (.Name x p) attr pos) env = (do
      let o ← eval (.Name x p) env
      standAt pos.atName
      let r ← holding [o] (getAttr o attr true)
      letTemporaryGo (.Name x p) o r
      pure r) := by with_unfolding_all rfl
theorem ea2 {e : Expr} {a : Str} {p : Pos} (attr : Str) (pos : Pos) (env : Env) : eval (.Attribute (.Attribute e a p) attr pos) env = (do
      let o ← eval (.Attribute e a p) env
      standAt pos.atName
      let r ← holding [o] (getAttr o attr true)
      letTemporaryGo (.Attribute e a p) o r
      pure r) := by with_unfolding_all rfl
theorem ea3 {e s : Expr} {p : Pos} (attr : Str) (pos : Pos) (env : Env) : eval (.Attribute (.Subscript e s p) attr pos) env = (do
      let o ← eval (.Subscript e s p) env
      standAt pos.atName
      let r ← holding [o] (getAttr o attr true)
      letTemporaryGo (.Subscript e s p) o r
      pure r) := by with_unfolding_all rfl
theorem eval_attr {e : Expr} (h : simpleO e = true) (attr : Str) (pos : Pos) (env : Env) : eval (.Attribute e attr pos) env = (do
      let o ← eval e env
      standAt pos.atName
      let r ← holding [o] (getAttr o attr true)
      letTemporaryGo e o r
      pure r) := by
  cases e with
  | Name x p => exact ea1 attr pos env
  | Attribute v a p => exact ea2 attr pos env
  | Subscript v a p => exact ea3 attr pos env
  | _ => cases h
theorem Ev.attr {e : Expr} {attr : Str} {pos : Pos} {x C : Addr} {fs : Fields} {v : Value} {av : Option Value} (he : Ev F lev c lo led e (.ref x)) (hm : (x, AO.inst C fs) ∈ led) (hf : (attr, v) ∈ fs)
    (h1 : plainGet (Mine.fr0.heap_1 c.w.params) C attr = true) (h2 : hasDictIn (Mine.fr0.heap_1 c.w.params) C = true) (h3 : findIn (Mine.fr0.heap_1 c.w.params) (.ref C) attr = some av) (h4 : noGet (Mine.fr0.heap_1 c.w.params) av = true) (h5 : handedIn v = true) (hso : simpleO e = true) : Ev F lev c lo led (.Attribute e attr pos) v := by
  intro ok s S Q E h
  refine Attribute_any_ (he ok s S _ _ fun v' s' hv S' => ?_) (eval_attr hso _ _ _)
  cases hv.ref_inv
  exact getA ok hm hf h1 h2 h3 h4 h5 S' h
noncomputable def fieldsOf : Addr → List Str
  | 275 => ["rows", "dropped", "is_on", "point_before", "noted_tick"]
  | 422 => ["room", "cells", "gap_start", "gap_end"]
  | 499 => ["number", "advances", "buffer", "position"]
  | 567 => ["rows"]
  | 673 => ["number", "name", "text", "markers", "point", "begv", "zv", "mark", "is_live", "is_read_only", "ticks", "codes_ticks", "saved_ticks", "listeners", "undo", "props", "overlays", "locals", "syntax", "file"]
  | 706 => ["codes", "runs"]
  | 746 => ["list"]
  | _ => []
theorem Ex.meth {o : Expr} {pl : Env → Sem Bool} {name : Str} {ap pos : Pos} {args : List Expr} {x C f : Addr} {fs : Fields} {vs : List Value} {lf : Nat} {foot r : ALed} {Post : (Value → ALed → Prop) → Prop} {P : Value → ALed → Prop} (H : HSpec lf f (.ref x :: vs) foot Post) (ho : Ev F lev c lo led o (.ref x)) (hm : (x, AO.inst C fs) ∈ led) (ha : Evs F lev c lo led args vs) (Sp : Split led foot r)
    (hns : fs.map (·.1) = fieldsOf C) (hno : (fieldsOf C).contains name = false) (h1 : plainGet (Mine.fr0.heap_1 c.w.params) C name = true) (h2 : findIn (Mine.fr0.heap_1 c.w.params) (.ref C) name = some (some (.ref f))) (h3 : isFn (Mine.fr0.heap_1 c.w.params) (.ref f) = true)
    (hk : keepIn (Mine.fr0.heap_1 c.w.params) (.ref f) = true) (hl : okLev lf lev = true) (he : ∀ env : Env, eval (.Call (.Attribute o name ap) args [] pos) env = (do
      let ov ← eval o env
      standAt ap.atName
      let (f, first) ← holding [ov] (getMethod ov name (pl env))
      callWith pos f first (backTo pos (starEach args env)) [])) (hp : Post fun v led' => P v (led' ++ r)) : Ex F lev c lo led (.Call (.Attribute o name ap) args [] pos) P := by
  intro ok s S E
  refine MethodCall_ (pl := pl (c.env F)) (ho ok s S _ _ fun ov s1 q1 S1 => ?_) (he _)
  cases q1.ref_inv
  have S0 := S1
  obtain ⟨_, _, m, cl, Fm, _, D, N, _⟩ := S0
  obtain ⟨l, d, hl'⟩ := D.get hm
  cases d with
  | inst he hn =>
    exact method_inst Fm ok.X (InstAt.of_news N (hl' _ (.head _)) (hl' _ (.tail _ (.head _)))) h1 h2 h3 (he.no (by rw [hns]; exact hno)) (callWithS ok hk ha S1 fun vs' s' q S' => callS ok H hl (.cons (.refl _) q) Sp hp S')
theorem cmpT {l r : Expr} {op : CmpOp} {pos : Pos} {a b : Value} {p : Bool} (h1 : Ev F lev c lo led l a) (h2 : Ev F lev c lo led r b) (hm : behindInMarks op r = false)
    (h : Ok F lev c → ∀ a' b' s, VEq a a' → VEq b b' → St F c lo led s → ∀ Q E, (∀ s', St F c lo led s' → Q (.bool p) s') → wpAny (model PG c.w) (c.A F) (compareOp op a' b') Q E s) : Ts F lev c lo led (.Compare l [op] [r] pos) p := by
  intro ok s S Q E k
  exact wpAny_isTrue_Compare1 (h1 ok s S _ _ fun a' s1 q1 S1 => h2 ok s1 S1 _ _ fun b' s2 q2 S2 => h ok a' b' s2 q1 q2 S2 _ _ fun s3 S3 => wpAny_truthy_bool (k s3 S3)) hm
variable {l r : Expr} {pos : Pos} {i j : Int} {t u : Tok}
end
end
section
open PySem PySem.W PySem.Calls PyProof.Rows PySem.Spec
theorem perm_mid {a b c : Led} : (a ++ (b ++ c)).Perm (b ++ (a ++ c)) := by
  rw [← List.append_assoc, ← List.append_assoc]; exact List.Perm.append_right _ List.perm_append_comm
theorem Rem.back {w : World} {p : Addr × AO} {led led' : ALed} (R : Rem p led led') : ∀ {l cr : Led}, Den w p.1 p.2 l → DenL w led' cr → ∃ cl, DenL w led cl ∧ cl.Perm (l ++ cr) := by
  induction R with
  | head => intro l cr d D; exact ⟨_, .cons d D, List.Perm.refl _⟩
  | tail _ ih =>
    intro l cr d D
    cases D with
    | @cons a o l0 r l' d0 D0 =>
      obtain ⟨cl, h1, h2⟩ := ih d D0
      exact ⟨_, .cons d0 h1, (List.Perm.append_left l0 h2).trans perm_mid⟩
  | skip _ ih =>
    intro l cr d D
    obtain ⟨x, y, rfl, hx, hy⟩ := D.unapp
    obtain ⟨cl, h1, h2⟩ := ih d hy
    exact ⟨_, hx.app h1, (List.Perm.append_left x h2).trans perm_mid⟩
theorem RemL.back {w : World} {T : ALed} {led led' : ALed} (R : RemL T led led') : ∀ {l cr : Led}, DenL w T l → DenL w led' cr → ∃ cl, DenL w led cl ∧ cl.Perm (l ++ cr) := by
  induction R with
  | head => intro l cr d D; exact ⟨_, d.app D, List.Perm.refl _⟩
  | all => intro l cr d D; cases D; exact ⟨_, d, by rw [List.append_nil]⟩
  | tail _ ih =>
    intro l cr d D
    cases D with
    | @cons a o l0 r l' d0 D0 =>
      obtain ⟨cl, h1, h2⟩ := ih d D0
      exact ⟨_, .cons d0 h1, (List.Perm.append_left l0 h2).trans perm_mid⟩
  | skip _ ih =>
    intro l cr d D
    obtain ⟨x, y, rfl, hx, hy⟩ := D.unapp
    obtain ⟨cl, h1, h2⟩ := ih d hy
    exact ⟨_, hx.app h1, (List.Perm.append_left x h2).trans perm_mid⟩
theorem Split.back {w : World} {led foot rest : ALed} (S : Split led foot rest) : ∀ {cf cr : Led}, DenL w foot cf → DenL w rest cr → ∃ cl, DenL w led cl ∧ cl.Perm (cf ++ cr) := by
  induction S with
  | nil => intro cf cr d D; cases d; exact ⟨_, D, List.Perm.refl _⟩
  | cons R _ ih =>
    intro cf cr d D
    cases d with
    | @cons a o l0 r l' d0 D0 =>
      obtain ⟨cl, h1, h2⟩ := ih D0 D
      obtain ⟨cl2, g1, g2⟩ := R.back d0 h1
      exact ⟨cl2, g1, g2.trans (by rw [List.append_assoc]; exact List.Perm.append_left l0 h2)⟩
  | app R _ ih =>
    intro cf cr d D
    obtain ⟨x, y, rfl, hx, hy⟩ := d.unapp
    obtain ⟨cl, h1, h2⟩ := ih hy D
    obtain ⟨cl2, g1, g2⟩ := R.back hx h1
    exact ⟨cl2, g1, g2.trans (by rw [List.append_assoc]; exact List.Perm.append_left x h2)⟩
  | last R => intro cf cr d D; exact R.back d D
theorem St.unsplit {F : Fn} {c : Cx} {lo : Lo} {led foot rest : ALed} {s : Shared} (h : St F c lo (foot ++ rest) s) (S : Split led foot rest) : St F c lo led s := by
  obtain ⟨sm, lk, m, cl, Fm, hlo, D, N, nd⟩ := h
  obtain ⟨x, y, rfl, d1, d2⟩ := D.unapp
  obtain ⟨cl2, g1, g2⟩ := S.back d1 d2
  exact ⟨sm, lk, m, _, Fm, hlo, g1, news_perm N g2.symm, (g2.map (·.1)).nodup_iff.mpr nd⟩
section
variable {F : Fn} {lev : Nat} {c : Cx} {lo : Lo} {led : ALed} {Φ : Fl} {rest : List Stmt}
theorem Ev.call {fn : Str} {p pos : Pos} {args : List Expr} {vs : List Value} {f : Addr} {lf : Nat} {foot r : ALed} {v : Value} (H : HSpec lf f vs foot fun K => K v foot) (ha : Evs F lev c lo led args vs) (Sp : Split led foot r)
    (hn : nsIn (Mine.fr0.heap_1 c.w.params) mainGlobals fn = some (some (.ref f))) (hk : keepIn (Mine.fr0.heap_1 c.w.params) (.ref f) = true) (hg : isGlob F fn = true) (hl : okLev lf lev = true) : Ev F lev c lo led (.Call (.Name fn p) args [] pos) v := by
  intro ok s S Q E k
  exact wpAny_mono (Ex.call (P := fun v₁ led₁ => v₁ = v ∧ led₁ = foot ++ r) H ha Sp hn hk hg hl ⟨rfl, rfl⟩ ok s S E) (fun v' s' ⟨v₁, led₁, q, S', e1, e2⟩ => by subst e1; subst e2; exact k v' s' q (S'.unsplit Sp)) fun _ _ x => x
theorem Ev.meth {o : Expr} {pl : Env → Sem Bool} {name : Str} {ap pos : Pos} {args : List Expr} {x C f : Addr} {fs : Fields} {vs : List Value} {lf : Nat} {foot r : ALed} {v : Value} (H : HSpec lf f (.ref x :: vs) foot fun K => K v foot) (ho : Ev F lev c lo led o (.ref x)) (hm : (x, AO.inst C fs) ∈ led) (ha : Evs F lev c lo led args vs) (Sp : Split led foot r)
    (hns : fs.map (·.1) = fieldsOf C) (hno : (fieldsOf C).contains name = false) (h1 : plainGet (Mine.fr0.heap_1 c.w.params) C name = true) (h2 : findIn (Mine.fr0.heap_1 c.w.params) (.ref C) name = some (some (.ref f))) (h3 : isFn (Mine.fr0.heap_1 c.w.params) (.ref f) = true)
    (hk : keepIn (Mine.fr0.heap_1 c.w.params) (.ref f) = true) (hl : okLev lf lev = true) (he : ∀ env : Env, eval (.Call (.Attribute o name ap) args [] pos) env = (do
      let ov ← eval o env
      standAt ap.atName
      let (f, first) ← holding [ov] (getMethod ov name (pl env))
      callWith pos f first (backTo pos (starEach args env)) [])) : Ev F lev c lo led (.Call (.Attribute o name ap) args [] pos) v := by
  intro ok s S Q E k
  exact wpAny_mono (Ex.meth (P := fun v₁ led₁ => v₁ = v ∧ led₁ = foot ++ r) H ho hm ha Sp hns hno h1 h2 h3 hk hl he ⟨rfl, rfl⟩ ok s S E) (fun v' s' ⟨v₁, led₁, q, S', e1, e2⟩ => by subst e1; subst e2; exact k v' s' q (S'.unsplit Sp)) fun _ _ x => x
end
end
section
open PySem PySem.W PySem.Calls PyProof.Rows PySem.Spec
section
variable {F : Fn} {lev : Nat} {c : Cx} {lo : Lo} {led : ALed} {Φ : Fl} {rest : List Stmt} {x e : Expr} {pos : Pos} {p q : Bool} {es : List Expr} {vs : List Value} {P : Value → ALed → Prop}
theorem Ts.not (h : Ts F lev c lo led x p) : Ts F lev c lo led (.UnaryOp .Not x pos) (!p) := fun ok s S Q E k => isTrue_not (h ok s S _ _ k)
theorem Ts.andNil : Ts F lev c lo led (.BoolOp .And [] pos) true := fun ok s S Q E k => isTrue_and_nil (k s S)
theorem Ts.orNil : Ts F lev c lo led (.BoolOp .Or [] pos) false := fun ok s S Q E k => isTrue_or_nil (k s S)
theorem Ts.and (h1 : Ts F lev c lo led x p) (h2 : p = true → Ts F lev c lo led (.BoolOp .And es pos) q) : Ts F lev c lo led (.BoolOp .And (x :: es) pos) (p && q) := fun ok s S Q E k =>
  isTrue_and (h1 ok s S _ _ fun s1 S1 => by
    cases p with
    | false => exact k s1 S1
    | true => exact h2 rfl ok s1 S1 _ _ k)
theorem Ts.or (h1 : Ts F lev c lo led x p) (h2 : p = false → Ts F lev c lo led (.BoolOp .Or es pos) q) : Ts F lev c lo led (.BoolOp .Or (x :: es) pos) (p || q) := fun ok s S Q E k =>
  isTrue_or (h1 ok s S _ _ fun s1 S1 => by
    cases p with
    | false => exact h2 rfl ok s1 S1 _ _ k
    | true => exact k s1 S1)
noncomputable def plainT (e : Expr) : Bool := (kindN e).beq 3 || (kindN e).beq 4
theorem isTrue_at {e : Expr} (h : plainT e = true) (env : Env) (whole : Sem Value) : isTrue e env whole = (do let v ← whole; standAt e.pos; holding [v] (truthy v)) := by
  cases e with
  | Name => rfl
  | Attribute => rfl
  | Subscript => rfl
  | Call => rfl
  | _ => cases h
theorem Ts.val (h : Ev F lev c lo led e (.bool p)) (hp : plainT e = true) : Ts F lev c lo led e p := fun ok s S Q E k =>
  isTrue_plain (h ok s S _ _ fun v' s' q' S' => by cases q'.bool_inv; exact wpAny_truthy_bool (k s' S')) (isTrue_at hp _ _)
theorem X.iteB {t : Expr} {a b : List Stmt} (h : Ts F lev c lo led t p) (h1 : p = true → X F lev c (Φ.then F lev c rest) lo led a) (h2 : p = false → X F lev c (Φ.then F lev c rest) lo led b) : X F lev c Φ lo led (.If t a b pos :: rest) :=
  X.step fun ok s S E => wpAny_If (h ok s S _ _ fun s' S' => by
    cases p with
    | true => exact h1 rfl ok s' S' E
    | false => exact h2 rfl ok s' S' E)
theorem Ev.bool {b : Bool} {k : Nat} : Ev F lev c lo led (.Constant (.bool b) k pos) (.bool b) := fun ok s S Q E h => by
  cases b <;> exact wpAny_Constant_bool (h _ _ (.refl _) S)
theorem Ev.ite {t a b : Expr} {u v : Value} (h : Ts F lev c lo led t p) (h1 : p = true → Ev F lev c lo led a u) (h2 : p = false → Ev F lev c lo led b v) : Ev F lev c lo led (.IfExp t a b pos) (if p then u else v) := fun ok s S Q E k =>
  wpAny_IfExp (h ok s S _ _ fun s' S' => by
    cases p with
    | true => exact h1 rfl ok s' S' _ _ k
    | false => exact h2 rfl ok s' S' _ _ k)
theorem nodup_new {h : Heap} {cl : Led} {d : Addr} {o : Obj} (nd : (cl.map (·.1)).Nodup) (l : ∀ p ∈ cl, p.1 < d) : (((d, o) :: cl).map (·.1)).Nodup := by
  rw [List.map_cons, List.nodup_cons]
  refine ⟨fun hm => ?_, nd⟩
  obtain ⟨p, hp, e⟩ := List.mem_map.mp hm
  exact Nat.lt_irrefl _ (e ▸ l p hp)
theorem Ex.list (ha : Evs F lev c lo led es vs) (hz : Nat.ble vs.length 1000 = true) (k : ∀ d, P (.ref d) ((d, .list vs) :: led)) : Ex F lev c lo led (.List es pos) P := fun ok s S E =>
  List_ (ha.run ok S fun vs' s' q' ⟨sm, lk, m, cl, Fm, hlo, D, N, nd⟩ => newList_K Fm N (fun l h' F' N' lt => ⟨_, _, .refl _, ⟨sm.upd h' _, lk, m, _, F', hlo, .cons (.list q') D, N', nodup_new (h := h') nd lt⟩, k l⟩)
    (by rw [← q'.length, sizeLine_eq]; have := Nat.le_of_ble_eq_true hz; omega))
theorem Ex.tup {n : Nat} (ha : Evs F lev c lo led es vs) (hz : Nat.ble vs.length 1000 = true) (k : ∀ d, P (.ref d) ((d, .tup vs) :: led)) : Ex F lev c lo led (.Tuple es n pos) P := fun ok s S E =>
  Tuple_ (ha.run ok S fun vs' s' q' ⟨sm, lk, m, cl, Fm, hlo, D, N, nd⟩ => kup_newTuple Fm N (fun l h' F' N' lt => ⟨_, _, .refl _, ⟨sm.upd h' _, lk, m, _, F', hlo, .cons (.tup q') D, N', nodup_new (h := h') nd lt⟩, k l⟩)
    (by rw [← q'.length, sizeLine_eq]; have := Nat.le_of_ble_eq_true hz; omega))
end
end
section
open PySem PySem.W PySem.Calls PyProof.Rows PySem.Spec PyProof.V
section
variable {prog : Program} {w : World} {A : Around} {E : Value → Shared → Prop} {s : Shared} {h₀ : Heap} {L : Addr} {m : Str → Option Value} {news : Led} {Q : Value → Shared → Prop}
end

section
variable {prog : Program} {w : World} {A : Around} {E : Value → Shared → Prop} {s : Shared} {env : Env} {h₀ : Heap} {x : Str} {body : List Stmt} {Q : Flow → Shared → Prop}

end
end
section
open PySem PySem.W PySem.Calls PyProof.Rows PySem.Spec PyProof.V
section
variable {prog : Program} {w : World} {A : Around} {E : Value → Shared → Prop} {s : Shared} {h₀ : Heap} {L : Addr} {m : Str → Option Value} {news : Led}
end
section
variable {prog : Program} {w : World} {A : Around} {E : Value → Shared → Prop} {s : Shared} {env : Env} {h₀ : Heap} {x : Str} {body : List Stmt} {Q : Flow → Shared → Prop}
end
end
section
open PySem PySem.W PySem.Calls PyProof.Rows PySem.Spec PyProof.V
section
variable {prog : Program} {w : World} {A : Around} {E : Value → Shared → Prop} {s : Shared} {env : Env} {h₀ : Heap} {x : Str} {body : List Stmt} {Q : Flow → Shared → Prop}
end
end
section
open PySem PySem.W PySem.Calls PyProof.Rows PySem.Spec PyProof.V PySem.MeetsSeq
noncomputable abbrev tupO (l : List Value) : Obj := { cls := .type "tuple", data := .seq l.toArray }

inductive TupCmp : List Value → List Value → Bool → Prop
  | nn : TupCmp [] [] true
  | nl {b t} : TupCmp [] (b :: t) false
  | nr {a r} : TupCmp (a :: r) [] false
  | diff {a b r t} : EqGives a b false → TupCmp (a :: r) (b :: t) false
  | same {a b r t k} : EqGives a b true → TupCmp r t k → TupCmp (a :: r) (b :: t) k
theorem eqg_str {x y : Str} {t u : Tok} (k : Bool) (h : (x == y) = k) : EqGives (.str x t) (.str y u) k := fun _ _ _ _ _ _ q => eqBool_str (by rw [h]; exact q)
theorem eqg_int {x y : Int} {t u : Tok} : EqGives (.int x t) (.int y u) (x == y) := .int _ _ _ _

section
variable {prog : Program} {w : World} {A : Around} {E : Value → Shared → Prop} {s : Shared}
theorem tup_eq_tree {a b : Addr} {xs ys : List Value} {na nb : Nat} {k : Bool} {P : Fin → Shared → Prop} (ha : s.heap.get? a = some { cls := .type "tuple", data := .seq xs.toArray na }) (hb : s.heap.get? b = some { cls := .type "tuple", data := .seq ys.toArray nb }) (hk : TupCmp xs ys k) (h : P (.done (.ret (.bool k))) s) :
    wpAny (model prog w) A (Builtin.«tuple.__eq__» ⟨[.ref a, .ref b], []⟩) P E s := by
  have hTb : s.TypeIs (.ref b) "tuple" := ⟨_, hb, rfl⟩
  show wpAny _ _ (isInstance (.ref b) (.type "tuple") >>= _) _ _ s
  refine wpAny_bind (wpAny_isInstance hTb isSubtype_tuple_tuple ?_)
  simp only [Bool.not_true, Bool.false_eq_true, if_false]
  refine wpAny_bind (wpAny_tupleItemsOf ha rfl ?_)
  refine wpAny_bind (wpAny_tupleItemsOf hb rfl ?_)
  refine wpAny_bind ?_
  refine wpAny_forIn_list _
    (fun rest r s' => r.1 = none ∧ s' = s ∧ ∃ xs' ys', rest = List.zip xs' ys' ∧ TupCmp xs' ys' k ∧ (xs'.length == ys'.length) = (xs.toArray.size == ys.toArray.size))
    _ ?_ ?_ _ _ ⟨rfl, rfl, xs, ys, rfl, hk, by simp⟩
  · rintro ⟨u, v⟩ rest r s' ⟨hr, rfl, xs', ys', hz, hc, hlen⟩
    cases hc with
    | nn => simp at hz
    | nl => simp at hz
    | nr => simp at hz
    | diff hd =>
      simp only [List.zip_cons_cons, List.cons.injEq, Prod.mk.injEq] at hz
      obtain ⟨⟨rfl, rfl⟩, rfl⟩ := hz
      refine wpAny_bind (hd _ _ _ _ _ _ ?_)
      simp only [Bool.not_false, if_true]
      exact wpAny_bind (wpAny_pure (wpAny_pure (wpAny_pure h)))
    | same hd hc' =>
      simp only [List.zip_cons_cons, List.cons.injEq, Prod.mk.injEq] at hz
      obtain ⟨⟨rfl, rfl⟩, rfl⟩ := hz
      refine wpAny_bind (hd _ _ _ _ _ _ ?_)
      simp only [Bool.not_true, Bool.false_eq_true, if_false]
      exact wpAny_pure ⟨rfl, rfl, _, _, rfl, hc', by simpa using hlen⟩
  · rintro ⟨r1, r2⟩ s' ⟨hr, rfl, xs', ys', hz, hc, hlen⟩
    simp only at hr
    subst hr
    refine wpAny_pure ?_
    have hfin : (xs.toArray.size == ys.toArray.size) = k := by
      rw [← hlen]
      cases hc with
      | nn => rfl
      | nl => rfl
      | nr => rfl
      | diff _ => simp at hz
      | same _ _ => simp at hz
    show P (.done (.ret (.bool (xs.toArray.size == ys.toArray.size)))) s'
    rw [hfin]; exact h
theorem tup_ne_tree {a b : Addr} {xs ys : List Value} {na nb : Nat} {k : Bool} {P : Fin → Shared → Prop} (ha : s.heap.get? a = some { cls := .type "tuple", data := .seq xs.toArray na }) (hb : s.heap.get? b = some { cls := .type "tuple", data := .seq ys.toArray nb }) (hk : TupCmp xs ys k) (h : P (.done (.ret (.bool (!k)))) s) :
    wpAny (model prog w) A (Builtin.«tuple.__ne__» ⟨[.ref a, .ref b], []⟩) P E s := by
  have hTb : s.TypeIs (.ref b) "tuple" := ⟨_, hb, rfl⟩
  show wpAny _ _ (isInstance (.ref b) (.type "tuple") >>= _) _ _ s
  refine wpAny_bind (wpAny_isInstance hTb isSubtype_tuple_tuple ?_)
  simp only [Bool.not_true, Bool.false_eq_true, if_false]
  refine wpAny_bind (wpAny_tupleItemsOf ha rfl ?_)
  refine wpAny_bind (wpAny_tupleItemsOf hb rfl ?_)
  refine wpAny_bind ?_
  refine wpAny_forIn_list _
    (fun rest r s' => r.1 = none ∧ s' = s ∧ ∃ xs' ys', rest = List.zip xs' ys' ∧ TupCmp xs' ys' k ∧ (xs'.length == ys'.length) = (xs.toArray.size == ys.toArray.size))
    _ ?_ ?_ _ _ ⟨rfl, rfl, xs, ys, rfl, hk, by simp⟩
  · rintro ⟨u, v⟩ rest r s' ⟨hr, rfl, xs', ys', hz, hc, hlen⟩
    cases hc with
    | nn => simp at hz
    | nl => simp at hz
    | nr => simp at hz
    | diff hd =>
      simp only [List.zip_cons_cons, List.cons.injEq, Prod.mk.injEq] at hz
      obtain ⟨⟨rfl, rfl⟩, rfl⟩ := hz
      refine wpAny_bind (hd _ _ _ _ _ _ ?_)
      simp only [Bool.not_false, if_true]
      exact wpAny_bind (wpAny_pure (wpAny_pure (wpAny_pure h)))
    | same hd hc' =>
      simp only [List.zip_cons_cons, List.cons.injEq, Prod.mk.injEq] at hz
      obtain ⟨⟨rfl, rfl⟩, rfl⟩ := hz
      refine wpAny_bind (hd _ _ _ _ _ _ ?_)
      simp only [Bool.not_true, Bool.false_eq_true, if_false]
      exact wpAny_pure ⟨rfl, rfl, _, _, rfl, hc', by simpa using hlen⟩
  · rintro ⟨r1, r2⟩ s' ⟨hr, rfl, xs', ys', hz, hc, hlen⟩
    simp only at hr
    subst hr
    refine wpAny_pure ?_
    have hfin : (xs.toArray.size == ys.toArray.size) = k := by
      rw [← hlen]
      cases hc with
      | nn => rfl
      | nl => rfl
      | nr => rfl
      | diff _ => simp at hz
      | same _ _ => simp at hz
    show P (.done (.ret (.bool (!(xs.toArray.size == ys.toArray.size))))) s'
    rw [hfin]; exact h
theorem tup_eq {a b : Addr} {xs ys : List Value} {na nb : Nat} {k : Bool} {Q : Value → Shared → Prop} (ha : s.heap.get? a = some { cls := .type "tuple", data := .seq xs.toArray na }) (hb : s.heap.get? b = some { cls := .type "tuple", data := .seq ys.toArray nb }) (hk : TupCmp xs ys k) (hu : A.units < cLine) (h : Q (.bool k) s) :
    wpAny (model prog w) A (compareOp .Eq (.ref a) (.ref b)) Q E s :=
  wpAny_richCompare_same_room (op := .Eq) ⟨_, ha, rfl⟩ ⟨_, hb, rfl⟩ F.slot_tuple_eq
      (wpAny_call_entry F.slot_tuple_eq ⟨_, ha, rfl⟩ F.entry_tuple_eq (tup_eq_tree ha hb hk ⟨_, rfl, (fun e => nomatch e), h⟩) (F.args_tuple_eq_2 _ _)) hu
theorem tup_ne {a b : Addr} {xs ys : List Value} {na nb : Nat} {k : Bool} {Q : Value → Shared → Prop} (ha : s.heap.get? a = some { cls := .type "tuple", data := .seq xs.toArray na }) (hb : s.heap.get? b = some { cls := .type "tuple", data := .seq ys.toArray nb }) (hk : TupCmp xs ys k) (hu : A.units < cLine) (h : Q (.bool (!k)) s) :
    wpAny (model prog w) A (compareOp .NotEq (.ref a) (.ref b)) Q E s :=
  wpAny_richCompare_same_room (op := .NotEq) ⟨_, ha, rfl⟩ ⟨_, hb, rfl⟩ F.slot_tuple_ne
      (wpAny_call_entry F.slot_tuple_ne ⟨_, ha, rfl⟩ F.entry_tuple_ne (tup_ne_tree ha hb hk ⟨_, rfl, (fun e => nomatch e), h⟩) (F.args_tuple_ne_2 _ _)) hu

variable {h₀ : Heap} {L : Addr} {m : Str → Option Value} {news : Led}
end

theorem tupcmp_last {a b : Value} {k : Bool} (h : EqGives a b k) : TupCmp [a] [b] k := by
  cases k
  · exact .diff h
  · exact .same h .nn
end
section
open PySem PySem.W PySem.Calls PyProof.Rows PySem.Spec
section
variable {F : Fn} {lev : Nat} {c : Cx} {lo : Lo} {led : ALed} {Φ : Fl} {rest : List Stmt} {x e : Expr} {pos p : Pos} {es : List Expr} {vs : List Value} {P : Value → ALed → Prop}
theorem callB {fn : Str} {id : String} (ok : Ok F lev c) (hn : nsIn (Mine.fr0.heap_1 c.w.params) mainGlobals fn = some none) (hv : bootBuiltins fn = some (.builtin id)) (hne : (fn == ("__name__" : Str)) = false) (hg : isGlob F fn = true) (he : es ≠ []) (ha : Evs F lev c lo led es vs) {s : Shared} (S : St F c lo led s) {Q E}
    (h : ∀ vs' s', VsEq vs vs' → St F c lo led s' → wpAny (model PG c.w) (c.A F) (call (.builtin id) vs') Q E s') : wpAny (model PG c.w) (c.A F) (eval (.Call (.Name fn p) es [] pos) (c.env F)) Q E s := by
  obtain ⟨g1, g2⟩ := Bool.and_eq_true_iff.mp hg
  have S0 := S
  obtain ⟨_, _, m, cl, Fm, _⟩ := S0
  refine Call_ (nm_B Fm ok.X (topRead_of ok.T) hn hv (fun e => by rw [e, beq_self_eq_true] at hne; cases hne) ?_ ok.k (of_decide_eq_true g1) (Bool.not_eq_true' _ ▸ g2)) eval_Call
  cases ha with
  | nil => exact absurd rfl he
  | cons hs h1 h2 => exact callWith_builtin1 ((Evs.cons hs h1 h2).run ok S h) (star_no hs _ _) (h2.plain _ _)
theorem VsEq.one {v : Value} {l : List Value} (h : VsEq [v] l) : ∃ v', l = [v'] ∧ VEq v v' := by
  cases h with
  | cons q r => cases r; exact ⟨_, rfl, q⟩
theorem VsEq.two {v u : Value} {l : List Value} (h : VsEq [v, u] l) : ∃ v' u', l = [v', u'] ∧ VEq v v' ∧ VEq u u' := by
  cases h with
  | cons q r =>
    obtain ⟨u', rfl, q2⟩ := r.one
    exact ⟨_, _, rfl, q, q2⟩
theorem St.list {l : Addr} {vs : List Value} {s : Shared} (S : St F c lo led s) (hm : (l, AO.list vs) ∈ led) : ∃ vs' n, s.heap.get? l = some (listOf vs'.toArray n) ∧ VsEq vs vs' := by
  obtain ⟨sm, lk, m, cl, Fm, hlo, D, N, nd⟩ := S
  obtain ⟨k, d, hl⟩ := D.get hm
  cases d with
  | list q => exact ⟨_, _, (N _ (hl _ (.head _))).1, q⟩
theorem Ev.len {l : Addr} {vs : List Value} {n : Int} (he : Ev F lev c lo led e (.ref l)) (hm : (l, AO.list vs) ∈ led) (hz : vs.length < 2 ^ 62) (hs : noStar e = true) (hg : isGlob F "len" = true) (hn : nsIn (Mine.fr0.heap_1 c.w.params) mainGlobals "len" = some Option.none) (hv : (vs.length : Int) = n) : Ev F lev c lo led (.Call (.Name "len" p) [e] [] pos) (.int n 0) := by
  intro ok s S Q E k
  refine callB ok hn rfl rfl hg (by simp) (.cons hs he .nil) S fun vs' s' q S' => ?_
  obtain ⟨v', rfl, q1⟩ := q.one
  cases q1.ref_inv
  obtain ⟨ws, m, h1, h2⟩ := S'.list hm
  subst hv
  exact call_len_list (items := ws.toArray) ⟨_, h1, rfl, m, rfl⟩ (by rw [List.size_toArray, ← h2.length]; omega) (by rw [List.size_toArray, ← h2.length]; exact k _ _ (.int _ _ _) (S'.toks _))
theorem St.grow {s : Shared} (S : St F c lo led s) {h' : Heap} (hk : ∀ b o, s.heap.get? b = some o → h'.get? b = some o) (n : Nat) : St F c lo led { s with heap := h', toks := n } := by
  obtain ⟨sm, lk, m, cl, Fm, hlo, D, N, nd⟩ := S
  exact ⟨sm.upd _ _, lk, m, cl, ⟨Fm.ns.keeps hk, fun b o e => hk _ _ (Fm.keep b o e), Fm.above⟩, hlo, D, fun p hp => ⟨hk _ _ (N p hp).1, (N p hp).2⟩, nd⟩
variable {a b : Expr} {i j : Int} {t u : Tok}
theorem Ev.max (h1 : Ev F lev c lo led a (.int i t)) (h2 : Ev F lev c lo led b (.int j u)) (hs : noStar a = true) (hs2 : noStar b = true) (hg : isGlob F "max" = true) (hn : nsIn (Mine.fr0.heap_1 c.w.params) mainGlobals "max" = some Option.none) : Ev F lev c lo led (.Call (.Name "max" p) [a, b] [] pos) (.int (Max.max i j) 0) := by
  intro ok s S Q E k
  refine callB ok hn rfl rfl hg (by simp) (.cons hs h1 (.cons hs2 h2 .nil)) S fun vs' s' q S' => ?_
  obtain ⟨v', u', rfl, q1, q2⟩ := q.two
  obtain ⟨t1, rfl⟩ := q1.int_inv
  obtain ⟨t2, rfl⟩ := q2.int_inv
  refine max_two_ints rfl fun h' tk hk => ?_
  by_cases hc : j > i
  · rw [if_pos hc]; exact k _ _ (by rw [show Max.max i j = j by omega]; exact .int _ _ _) (S'.grow hk _)
  · rw [if_neg hc]; exact k _ _ (by rw [show Max.max i j = i by omega]; exact .int _ _ _) (S'.grow hk _)
theorem Ev.min (h1 : Ev F lev c lo led a (.int i t)) (h2 : Ev F lev c lo led b (.int j u)) (hs : noStar a = true) (hs2 : noStar b = true) (hg : isGlob F "min" = true) (hn : nsIn (Mine.fr0.heap_1 c.w.params) mainGlobals "min" = some Option.none) : Ev F lev c lo led (.Call (.Name "min" p) [a, b] [] pos) (.int (Min.min i j) 0) := by
  intro ok s S Q E k
  refine callB ok hn rfl rfl hg (by simp) (.cons hs h1 (.cons hs2 h2 .nil)) S fun vs' s' q S' => ?_
  obtain ⟨v', u', rfl, q1, q2⟩ := q.two
  obtain ⟨t1, rfl⟩ := q1.int_inv
  obtain ⟨t2, rfl⟩ := q2.int_inv
  refine min_two_ints rfl fun h' tk hk => ?_
  by_cases hc : j < i
  · rw [if_pos hc]; exact k _ _ (by rw [show Min.min i j = j by omega]; exact .int _ _ _) (S'.grow hk _)
  · rw [if_neg hc]; exact k _ _ (by rw [show Min.min i j = i by omega]; exact .int _ _ _) (S'.grow hk _)
theorem VsEq.get {l l' : List Value} (h : VsEq l l') : ∀ {n : Nat} {v : Value}, l[n]? = some v → ∃ v', l'[n]? = some v' ∧ VEq v v' := by
  induction h with
  | nil => intro n v e; cases e
  | cons q _ ih =>
    intro n v e
    cases n with
    | zero => cases e; exact ⟨_, rfl, q⟩
    | succ n => exact ih e
theorem Ev.item {l : Addr} {vs : List Value} {v : Value} (he : Ev F lev c lo led a (.ref l)) (h2 : Ev F lev c lo led b (.int i t)) (hm : (l, AO.list vs) ∈ led) (h0 : 0 ≤ i) (hz : vs.length < 2 ^ 62) (hv : vs[i.toNat]? = some v)
    (hs : ∀ x t, subscripted b false (.ref x) (.int i t) = operate [.ref x, .int i t] (getItem (.ref x) (.int i t)) := by with_unfolding_all exact fun _ _ => rfl) : Ev F lev c lo led (.Subscript a b pos) v := by
  intro ok s S Q E k
  refine Subscript_ (he ok s S _ _ fun v1 s1 q1 S1 => h2 ok s1 S1 _ _ fun v2 s2 q2 S2 => ?_)
  cases q1.ref_inv
  obtain ⟨t2, rfl⟩ := q2.int_inv
  obtain ⟨ws, m, g1, g2⟩ := S2.list hm
  obtain ⟨v', g3, g4⟩ := g2.get hv
  have hl : s2.heap.IsList l (List.toArray ws) := ⟨_, g1, rfl, m, rfl⟩
  have hlt := (List.getElem?_eq_some_iff.mp g3).1
  have hle := g2.length
  exact tail_any hl.typeIs slot_list_getitem.lookup (wpAny_getItem_list hl h0 (by omega) (by simpa using g3) (k _ _ g4 S2)) (hs _ _)
theorem Ev.last {l : Addr} {vs : List Value} {v : Value} (he : Ev F lev c lo led a (.ref l)) (h2 : Ev F lev c lo led b (.int (-1) t)) (hm : (l, AO.list (vs ++ [v])) ∈ led)
    (hs : ∀ x t, subscripted b false (.ref x) (.int (-1) t) = operate [.ref x, .int (-1) t] (getItem (.ref x) (.int (-1) t)) := by with_unfolding_all exact fun _ _ => rfl) : Ev F lev c lo led (.Subscript a b pos) v := by
  intro ok s S Q E k
  refine Subscript_ (he ok s S _ _ fun v1 s1 q1 S1 => h2 ok s1 S1 _ _ fun v2 s2 q2 S2 => ?_)
  cases q1.ref_inv
  obtain ⟨t2, rfl⟩ := q2.int_inv
  obtain ⟨ws, m, g1, g2⟩ := S2.list hm
  have hg : (vs ++ [v])[vs.length]? = some v := by simp
  obtain ⟨v', g3, g4⟩ := g2.get hg
  have hle := g2.length
  rw [List.length_append, List.length_cons, List.length_nil] at hle
  have hl : s2.heap.IsList l (List.toArray ws) := ⟨_, g1, rfl, m, rfl⟩
  refine tail_any hl.typeIs slot_list_getitem.lookup (wpAny_getItem_list_neg hl (by decide) (by simp; omega) (by decide) ?_ (k _ _ g4 S2)) (hs _ _)
  rw [show (((-1 : Int) + ((List.toArray ws).size : Int)).toNat) = vs.length by simp; omega]
  simpa using g3
theorem St.tup {l : Addr} {vs : List Value} {s : Shared} (S : St F c lo led s) (hm : (l, AO.tup vs) ∈ led) : ∃ vs', s.heap.get? l = some { cls := .type "tuple", data := .seq vs'.toArray } ∧ VsEq vs vs' := by
  obtain ⟨sm, lk, m, cl, Fm, hlo, D, N, nd⟩ := S
  obtain ⟨k, d, hl⟩ := D.get hm
  cases d with
  | tup q => exact ⟨_, (N _ (hl _ (.head _))).1, q⟩
theorem Ev.titem {l : Addr} {vs : List Value} {v : Value} {n : Nat} (he : Ev F lev c lo led a (.ref l)) (h2 : Ev F lev c lo led b (.int n t)) (hm : (l, AO.tup vs) ∈ led) (hz : Nat.ble n 1000 = true) (hv : vs[n]? = some v)
    (hs : ∀ x t, subscripted b false (.ref x) (.int n t) = operate [.ref x, .int n t] (getItem (.ref x) (.int n t)) := by with_unfolding_all exact fun _ _ => rfl) : Ev F lev c lo led (.Subscript a b pos) v := by
  intro ok s S Q E k
  refine Subscript_ (he ok s S _ _ fun v1 s1 q1 S1 => h2 ok s1 S1 _ _ fun v2 s2 q2 S2 => ?_)
  cases q1.ref_inv
  obtain ⟨t2, rfl⟩ := q2.int_inv
  obtain ⟨ws, g1, g2⟩ := S2.tup hm
  obtain ⟨v', g3, g4⟩ := g2.get hv
  have := Nat.le_of_ble_eq_true hz
  have hlt := (List.getElem?_eq_some_iff.mp g3).1
  exact item_tupleT (j := n) ⟨_, g1, rfl, _, rfl⟩ (by omega) (by omega) (by unfold seqIndex?; simp; omega) g3 (k _ _ g4 S2) (hs _ _)
end
end
section
open PySem PySem.W PySem.Calls PyProof.Rows PySem.Spec
section
variable {F : Fn} {lev : Nat} {c : Cx} {lo : Lo} {led led' : ALed} {Φ : Fl} {rest : List Stmt} {x e o a b : Expr} {pos p ap : Pos} {es : List Expr} {vs : List Value} {v : Value} {P : Value → ALed → Prop} {i j : Int} {t u : Tok}
theorem VsEq.app {a b a' b' : List Value} (h : VsEq a a') (h2 : VsEq b b') : VsEq (a ++ b) (a' ++ b') := by
  induction h with
  | nil => exact h2
  | cons q _ ih => exact .cons q ih
theorem St.turn {l : Addr} {vs : List Value} {s : Shared} (S : St F c lo led s) {o' : AO} (R : Rep l (.list vs) o' led led') : ∃ pre post ws n m, Sim c.s₀ s ∧ LoOk F lo ∧ Fr c.g c.L s.heap m ∧ (∀ x v, (x, some v) ∈ lo → ∃ v', m x = some v' ∧ VEq v v') ∧ News c.g c.L s.heap (pre ++ (l, listOf (List.toArray ws) n) :: post) ∧ VsEq vs ws
    ∧ (∀ p ∈ pre, p.1 ≠ l) ∧ (∀ p ∈ post, p.1 ≠ l) ∧ ∀ ob h' tk, Den c.w l o' [(l, ob)] → Fr c.g c.L h' m → News c.g c.L h' (pre ++ (l, ob) :: post) → St F c lo led' { s with heap := h', toks := tk } := by
  obtain ⟨sm, lk, m, cl, Fm, hlo, D, N, nd⟩ := S
  obtain ⟨pre, k, post, rfl, d, hk⟩ := R.den D
  cases d with
  | @list _ ws n q =>
    obtain ⟨n1, n2⟩ := nodup_mid nd
    refine ⟨pre, post, ws, n, m, sm, lk, Fm, hlo, N, q, n1, n2, fun ob h' tk d' F' N' => ⟨sm.upd _ _, lk, m, _, F', hlo, hk _ d', N', ?_⟩⟩
    rw [List.map_append] at nd ⊢
    exact nd
theorem callWithB {id : String} {first : List Value} (ok : Ok F lev c) (ha : Evs F lev c lo led es vs) (hne : es ≠ []) {s : Shared} (S : St F c lo led s) {Q E}
    (h : ∀ vs' s', VsEq vs vs' → St F c lo led s' → wpAny (model PG c.w) (c.A F) (call (.builtin id) (first ++ vs')) Q E s') : wpAny (model PG c.w) (c.A F) (callWith pos (.builtin id) first (backTo pos (starEach es (c.env F))) []) Q E s := by
  have hp := ha.plain pos (c.env F)
  cases ha with
  | nil => exact absurd rfl hne
  | cons hs h1 h2 =>
    have z := (Evs.cons hs h1 h2).run ok S (pos := pos) (Q := fun vs' s' => wpAny (model PG c.w) (c.A F) (call (.builtin id) (first ++ vs')) Q E s') (E := E) h
    rw [star_no hs] at z hp ⊢
    exact callWith_builtin hp (evalArgs_plain z)
theorem Ex.append {l : Addr} {pl : Env → Sem Bool} (ho : Ev F lev c lo led o (.ref l)) (he : Ev F lev c lo led e v) (hs : noStar e = true) (R : Rep l (.list vs) (.list (vs ++ [v])) led led') (hz : vs.length ≤ 1000000)
    (hq : ∀ env : Env, eval (.Call (.Attribute o "append" ap) [e] [] pos) env = (do
      let ov ← eval o env
      standAt ap.atName
      let (f, first) ← holding [ov] (getMethod ov "append" (pl env))
      callWith pos f first (backTo pos (starEach [e] env)) [])) (k : P .none led') : Ex F lev c lo led (.Call (.Attribute o "append" ap) [e] [] pos) P := by
  intro ok s S E
  refine MethodCall_ (pl := pl (c.env F)) (ho ok s S _ _ fun ov s1 q1 S1 => ?_) (hq _)
  cases q1.ref_inv
  obtain ⟨_, _, _, _, _, _, _, _, _, N, _⟩ := S1.turn R
  refine listMethod_K N (List.mem_append_right _ (.head _)) PySem.F.slot_list_append PySem.F.type_list_append ?_
  refine callWithB ok (.cons hs he .nil) (by simp) S1 fun vs' s' q S' => ?_
  obtain ⟨v', rfl, q2⟩ := q.one
  obtain ⟨pre, post, ws, n, m, sm, lk, Fm, hlo, N, qv, n1, n2, fin⟩ := S'.turn R
  exact append_K Fm N (upd_of n1 n2) (fun h' F' N' => ⟨.none, led', .refl _, fin _ h' _ (by rw [show ws.toArray.push v' = (ws ++ [v']).toArray by simp]; exact .list (qv.app (.cons q2 .nil))) F' N', k⟩) (by rw [List.size_toArray, ← qv.length, sizeLine_eq]; omega)
end
end
section
open PySem PySem.W PySem.Calls PyProof.Rows PySem.Spec
theorem VsEq.drop {a b : List Value} (h : VsEq a b) : ∀ n, VsEq (a.drop n) (b.drop n) := by
  induction h with
  | nil => intro n; rw [List.drop_nil]; exact .nil
  | cons q r ih =>
    intro n
    cases n with
    | zero => exact .cons q r
    | succ n => exact ih n
theorem VsEq.take {a b : List Value} (h : VsEq a b) : ∀ n, VsEq (a.take n) (b.take n) := by
  induction h with
  | nil => intro n; rw [List.take_nil]; exact .nil
  | cons q r ih =>
    intro n
    cases n with
    | zero => exact .nil
    | succ n => exact .cons q (ih n)
theorem cut_min {α : Type} (l : List α) (i j : Nat) : (l.drop (min i l.length)).take (min j l.length - min i l.length) = (l.drop i).take (j - i) := by
  rw [kmk_drop_min]
  by_cases h : i ≤ l.length
  · rw [Nat.min_eq_left h]
    by_cases h2 : j ≤ l.length
    · rw [Nat.min_eq_left h2]
    · rw [Nat.min_eq_right (by omega), List.take_of_length_le (by rw [List.length_drop]; omega), List.take_of_length_le (by rw [List.length_drop]; omega)]
  · rw [List.drop_of_length_le (by omega), List.take_nil, List.take_nil]
theorem imax (a n : Nat) : max (0 : Int) (min (a : Int) n) = ((min a n : Nat) : Int) := by
  rcases Nat.le_total a n with h | h
  · rw [Nat.min_eq_left h, Int.min_eq_left (Int.ofNat_le.mpr h), Int.max_eq_right (Int.natCast_nonneg _)]
  · rw [Nat.min_eq_right h, Int.min_eq_right (Int.ofNat_le.mpr h), Int.max_eq_right (Int.natCast_nonneg _)]
theorem slice_bounds (a b n : Nat) : sliceBounds (some (a : Int)) (some (b : Int)) none n = (((min a n : Nat) : Int), ((min b n : Nat) : Int), 1) := by
  simp only [sliceBounds, Option.getD_none, show (1 : Int) > 0 by decide, if_true, if_neg (Int.not_lt.mpr (Int.natCast_nonneg a)), if_neg (Int.not_lt.mpr (Int.natCast_nonneg b)), imax]
theorem slice_bounds0 (b n : Nat) : sliceBounds none (some (b : Int)) none n = (((0 : Nat) : Int), ((min b n : Nat) : Int), 1) := by
  simp only [sliceBounds, Option.getD_none, show (1 : Int) > 0 by decide, if_true, if_neg (Int.not_lt.mpr (Int.natCast_nonneg b)), imax]; rfl
theorem pick_cut (its : Array Value) {i j : Int} (h0 : 0 ≤ i) (h1 : 0 ≤ j) : slicePick its (some i) (some j) none = ((its.toList.drop i.toNat).take (j.toNat - i.toNat)).toArray := by
  obtain ⟨a, rfl⟩ := Int.eq_ofNat_of_zero_le h0
  obtain ⟨b, rfl⟩ := Int.eq_ofNat_of_zero_le h1
  rw [kmk_pick_nat _ (slice_bounds a b _), ← Array.length_toList, cut_min]; rfl
section
variable {F : Fn} {lev : Nat} {c : Cx} {lo : Lo} {led led' : ALed} {Φ : Fl} {rest : List Stmt} {x e o a b : Expr} {pos p ap : Pos} {es : List Expr} {vs : List Value} {v : Value} {P : Value → ALed → Prop} {i j : Int} {t u : Tok}
theorem Ex.slice {l : Addr} (ha : Ev F lev c lo led a (.ref l)) (h1 : Ev F lev c lo led x (.int i t)) (h2 : Ev F lev c lo led e (.int j u)) (hm : (l, AO.list vs) ∈ led) (h0 : 0 ≤ i) (hj : 0 ≤ j) (hz : vs.length ≤ 1000000)
    (k : ∀ d, P (.ref d) ((d, .list ((vs.drop i.toNat).take (j.toNat - i.toNat))) :: led)) : Ex F lev c lo led (.Subscript a (.Slice (some x) (some e) none p) pos) P := by
  intro ok s S E
  refine Subscript_ (ha ok s S _ _ fun v1 s1 q1 S1 => ?_)
  refine wpAny_Slice (evalPart_some_step (h1 ok s1 S1 _ _ fun v2 s2 q2 S2 => evalPart_some_step (h2 ok s2 S2 _ _ fun v3 s3 q3 S3 => evalPart_none_step ?_)))
  cases q1.ref_inv
  obtain ⟨t2, rfl⟩ := q2.int_inv
  obtain ⟨t3, rfl⟩ := q3.int_inv
  obtain ⟨ws, n, g1, g2⟩ := S3.list hm
  obtain ⟨sm, lk, m, cl, Fm, hlo, D, N, nd⟩ := S3
  refine kba_turn (value' := PySem.Expr.Name (PySem.Str.ofString "_") ⟨0, 0, 0, 0⟩) (fun _ => rfl) ?_
  exact kmk_slice Fm N ⟨_, g1, rfl, n, rfl⟩ (.int _ _) (.int _ _) (fun d h' F' N' lt => by
    rw [pick_cut _ h0 hj] at N'
    exact ⟨_, _, .refl _, ⟨sm.upd h' _, lk, m, _, F', hlo, .cons (.list ((g2.drop _).take _)) D, N', nodup_new (h := h') nd lt⟩, k d⟩) (by with_unfolding_all rfl) (fun _ => rfl) (by rw [List.size_toArray, ← g2.length, sizeLine_eq]; omega)
end
end
section
open PySem PySem.W PySem.Calls PyProof.Rows PySem.Spec
section
variable {F : Fn} {lev : Nat} {c : Cx} {lo : Lo} {led led' : ALed} {Φ : Fl} {rest : List Stmt} {x e o a b : Expr} {pos p ap : Pos} {es : List Expr} {vs us : List Value} {v : Value} {P : Value → ALed → Prop} {i j : Int} {t u : Tok}
noncomputable def Opn (F : Fn) (lev : Nat) (c : Cx) (lo : Lo) (led : ALed) (op : Operator) (v u : Value) (P : Value → ALed → Prop) : Prop :=
  Ok F lev c → ∀ s v' u', St F c lo led s → VEq v v' → VEq u u' → ∀ E, wpAny (model PG c.w) (c.A F) (binaryOp op v' u') (fun r s' => ExP F c lo P r s') E s
theorem Ex.bin {op : Operator} (h : Ex F lev c lo led a fun v led1 => Ex F lev c lo led1 b fun u led2 => Opn F lev c lo led2 op v u P) : Ex F lev c lo led (.BinOp a op b pos) P := fun ok s S E =>
  wpAny_BinOp (wpAny_mono (h ok s S E) (fun _ s1 ⟨_, _, q1, S1, h1⟩ => wpAny_mono (h1 ok s1 S1 E) (fun _ s2 ⟨_, _, q2, S2, h2⟩ => h2 ok s2 _ _ S2 q1 q2 E) fun _ _ x => x) fun _ _ x => x)
theorem Opn.cat {l1 l2 : Addr} (h1 : (l1, AO.list vs) ∈ led) (h2 : (l2, AO.list us) ∈ led) (hz : vs.length + us.length ≤ 1000000) (k : ∀ d, P (.ref d) ((d, .list (vs ++ us)) :: led)) : Opn F lev c lo led .Add (.ref l1) (.ref l2) P := by
  intro ok s v' u' S q1 q2 E
  cases q1.ref_inv
  cases q2.ref_inv
  obtain ⟨ws, n, g1, g2⟩ := S.list h1
  obtain ⟨zs, n2, g3, g4⟩ := S.list h2
  obtain ⟨sm, lk, m, cl, Fm, hlo, D, N, nd⟩ := S
  exact kmk_add_lit Fm N ⟨_, g1, rfl, n, rfl⟩ ⟨_, g3, rfl, n2, rfl⟩ rfl (fun d h' F' N' lt => ⟨_, _, .refl _, ⟨sm.upd h' _, lk, m, _, F', hlo, .cons (.list (g2.app g4)) D, by rw [List.toList_toArray, List.toList_toArray] at N'; exact N', nodup_new (h := h') nd lt⟩, k d⟩)
    (by rw [List.toList_toArray, List.toList_toArray, ← g2.length, ← g4.length, sizeLine_eq]; omega)
inductive SetA (F : Fn) (lev : Nat) (c : Cx) (lo : Lo) (led1 : ALed) (t : Expr) (attr : Str) (v : Value) (k : ALed → Prop) : Prop
  | intro (x C : Addr) (fs fs' : Fields) (led' : ALed) (ht : Ev F lev c lo led1 t (.ref x)) (hR : Rep x (.inst C fs) (.inst C fs') led1 led') (hf : SetF attr v fs fs') (hz : Nat.ble fs.length 1000 = true)
    (h1 : findIn (Mine.fr0.heap_1 c.w.params) (.ref C) "__setattr__" = some (some (.builtin "object.__setattr__"))) (h2 : plainOver (Mine.fr0.heap_1 c.w.params) C = true) (h3 : takerIn (Mine.fr0.heap_1 c.w.params) C attr = some none) (h4 : hasDictIn (Mine.fr0.heap_1 c.w.params) C = true) (hk : k led') : SetA F lev c lo led1 t attr v k
theorem X.setattrE {t e : Expr} {attr : Str} (hc : noComp e = true) (h : Ex F lev c lo led e fun v led1 => SetA F lev c lo led1 t attr v fun led' => X F lev c Φ lo led' rest) :
    X F lev c Φ lo led (.Assign [.Attribute t attr p] e pos :: rest) :=
  X.step fun ok s S E => plainObj_wpAny_Assign_Attribute (wpAny_mono (h ok s S E) (fun v' s' ⟨v, led1, q, S', x, C, fs, fs', led', ht, hR, hf, hz, h1, h2, h3, h4, k⟩ => ht ok s' S' _ _ fun ov s2 q2 S2 => by
    cases q2.ref_inv
    exact setA ok hR hf hz h1 h2 h3 h4 q S2 fun s3 S3 => ⟨lo, led', S3, k⟩) fun _ _ x => x) (swaps_no hc _ _ _)
theorem X.drop {led1 r : ALed} (S : Split led led1 r) (k : X F lev c Φ lo led1 es') : X F lev c Φ lo led es' := fun ok s S0 E => k ok s (S0.split S).front E
end
end
section
open PySem PySem.W PySem.Calls PyProof.Rows PySem.Spec
section
variable {F : Fn} {lev : Nat} {c : Cx} {lo : Lo} {led led' : ALed} {Φ : Fl} {rest : List Stmt} {x y e o a b : Expr} {pos p p2 ap : Pos} {es : List Expr} {vs us : List Value} {v : Value} {P : Value → ALed → Prop} {i j : Int} {t u : Tok}
theorem X.nilT (k : X F lev c Φ lo led rest) : X F lev c (Φ.then F lev c rest) lo led [] := X.nil k
theorem X.finF {K : Value → ALed → Prop} {r : ALed} (S : Split led led' r) (k : K .none led') : X F lev c (Fl.fn K) lo led [] := X.fin S k
end
end
section
open PySem PySem.W PySem.Calls PyProof.Rows PySem.Spec PyProof.V
section
variable {F : Fn} {lev : Nat} {c : Cx} {lo lo' : Lo} {led led' : ALed} {Φ : Fl} {rest body : List Stmt} {x y e o a b : Expr} {pos p p2 ap : Pos} {es : List Expr} {vs us : List Value} {v : Value} {P : Value → ALed → Prop} {i j : Int} {t u : Tok}
theorem Ex.mono {P' : Value → ALed → Prop} (h : Ex F lev c lo led e P) (k : ∀ v l, P v l → P' v l) : Ex F lev c lo led e P' := fun ok s S E => wpAny_mono (h ok s S E) (fun _ _ ⟨v, l, q, S', hP⟩ => ⟨v, l, q, S', k v l hP⟩) fun _ _ x => x
noncomputable def Exs (F : Fn) (lev : Nat) (c : Cx) (lo : Lo) (led : ALed) (es : List Expr) (P : List Value → ALed → Prop) : Prop :=
  Ok F lev c → ∀ s, St F c lo led s → ∀ pos E, wpAny (model PG c.w) (c.A F) (spliced (backTo pos (starEach es (c.env F)))) (fun vs' s' => ∃ vs led', VsEq vs vs' ∧ St F c lo led' s' ∧ P vs led') E s
theorem Exs.nil {P : List Value → ALed → Prop} (k : P [] led) : Exs F lev c lo led [] P := fun ok s S pos E => args_nil ⟨[], led, .nil, S, k⟩
theorem Exs.cons {P : List Value → ALed → Prop} (hs : noStar e = true) (h : Ex F lev c lo led e fun v led1 => Exs F lev c lo led1 es fun vs led2 => P (v :: vs) led2) : Exs F lev c lo led (e :: es) P := fun ok s S pos E =>
  args_cons (wpAny_mono (h ok s S E) (fun v' s1 ⟨v, led1, q, S1, h1⟩ => wpAny_mono (h1 ok s1 S1 pos E) (fun vs' s2 ⟨vs, led2, q2, S2, k⟩ => ⟨v :: vs, led2, .cons q q2, S2, k⟩) fun _ _ x => x) fun _ _ x => x) (star_no hs _ _)
theorem Exs.evs {P : List Value → ALed → Prop} (h : Evs F lev c lo led es vs) (k : P vs led) : Exs F lev c lo led es P := fun ok s S pos E => h.run ok S fun vs' s' q S' => ⟨vs, led, q, S', k⟩
theorem Exs.ev {P : List Value → ALed → Prop} (hs : noStar e = true) (h : Ev F lev c lo led e v) (k : Exs F lev c lo led es fun vs led2 => P (v :: vs) led2) : Exs F lev c lo led (e :: es) P := Exs.cons hs (Ex.ev h k)
theorem all_plain {es : List Expr} (h : es.all noStar = true) (pos : Pos) (env : Env) : (backTo pos (starEach es env)).any (·.1) = false := by
  induction es with
  | nil => rfl
  | cons e es ih =>
    rw [List.all_cons, Bool.and_eq_true_iff] at h
    rw [star_no h.1]; exact ih h.2
theorem callWithX {f : Value} {first : List Value} {P' : List Value → ALed → Prop} (ok : Ok F lev c) (hk : keepIn (Mine.fr0.heap_1 c.w.params) f = true) (hs : (e :: es).all noStar = true) (ha : Exs F lev c lo led (e :: es) P') {s : Shared} (S : St F c lo led s) {Q E}
    (h : ∀ vs vs' led1 s', VsEq vs vs' → St F c lo led1 s' → P' vs led1 → wpAny (model PG c.w) (c.A F) (call f (first ++ vs')) Q E s') : wpAny (model PG c.w) (c.A F) (callWith pos f first (backTo pos (starEach (e :: es) (c.env F))) []) Q E s := by
  have h1 := (Bool.and_eq_true_iff.mp (List.all_cons ▸ hs)).1
  exact callWith_K ok.X hk (wpAny_mono (ha ok s S pos E) (fun vs' s' ⟨vs, led1, q, S1, k⟩ => ⟨S1.In ok, h vs vs' led1 s' q S1 k⟩) fun _ _ x => x) (star_no h1 _ _) (all_plain (Bool.and_eq_true_iff.mp (List.all_cons ▸ hs)).2 pos _)
theorem Ex.callX {fn : Str} {f : Addr} (hs : (e :: es).all noStar = true) (hn : nsIn (Mine.fr0.heap_1 c.w.params) mainGlobals fn = some (some (.ref f))) (hk : keepIn (Mine.fr0.heap_1 c.w.params) (.ref f) = true) (hg : isGlob F fn = true)
    (ha : Exs F lev c lo led (e :: es) fun vs led1 => ∃ lf foot r Post, HSpec lf f vs foot Post ∧ okLev lf lev = true ∧ Split led1 foot r ∧ Post fun v led' => P v (led' ++ r)) : Ex F lev c lo led (.Call (.Name fn p) (e :: es) [] pos) P := by
  intro ok s S E
  obtain ⟨g1, g2⟩ := Bool.and_eq_true_iff.mp hg
  have S0 := S
  obtain ⟨_, _, m, cl, Fm, _⟩ := S0
  refine Call_ (nm_K Fm ok.X (topRead_of ok.T) hn ?_ ok.k (of_decide_eq_true g1) (Bool.not_eq_true' _ ▸ g2)) eval_Call
  exact callWithX ok hk hs ha S fun vs vs' led1 s' q S' ⟨lf, foot, r, Post, H, hl, Sp, hp⟩ => callS ok H hl q Sp hp S'
theorem Ex.tupX {n : Nat} (ha : Exs F lev c lo led es fun vs led1 => vs.length ≤ 1000 ∧ ∀ d, P (.ref d) ((d, .tup vs) :: led1)) : Ex F lev c lo led (.Tuple es n pos) P := fun ok s S E =>
  Tuple_ (wpAny_mono (ha ok s S pos E) (fun vs' s' ⟨vs, led1, q', ⟨sm, lk, m, cl, Fm, hlo, D, N, nd⟩, hz, k⟩ => kup_newTuple Fm N (fun l h' F' N' lt => ⟨_, _, .refl _, ⟨sm.upd h' _, lk, m, _, F', hlo, .cons (.tup q') D, N', nodup_new (h := h') nd lt⟩, k l⟩)
    (by rw [← q'.length, sizeLine_eq]; omega)) fun _ _ x => x)
noncomputable def Asg (F : Fn) (lev : Nat) (c : Cx) (lo : Lo) (led : ALed) (t : Expr) (v : Value) (lo' : Lo) (led' : ALed) : Prop :=
  Ok F lev c → ∀ s v', St F c lo led s → VEq v v' → ∀ Q E, (∀ s', St F c lo' led' s' → Q () s') → wpAny (model PG c.w) (c.A F) (assign t (c.env F) v') Q E s
theorem Asg.name {n : Str} (h : SetL n v lo lo') : Asg F lev c lo led (.Name n pos) v lo' led := fun ok s v' S q Q E k => assign_Name (St.store ok h q S k)
inductive SetTs : List Expr → List Value → Lo → Lo → Prop
  | nil {l1 : Lo} : SetTs [] [] l1 l1
  | cons {n : Str} {q : Pos} {r : List Expr} {z : Value} {zs : List Value} {l1 l2 l3 : Lo} : SetL n z l1 l2 → SetTs r zs l2 l3 → SetTs (.Name n q :: r) (z :: zs) l1 l3
theorem SetTs.len {es : List Expr} {vs : List Value} {lo lo' : Lo} (h : SetTs es vs lo lo') : es.length = vs.length := by
  induction h with
  | nil => rfl
  | cons _ _ ih => simp [ih]
theorem SetTs.each {es : List Expr} {vs : List Value} {lo lo' : Lo} (h : SetTs es vs lo lo') (env : Env) : (assignEach es env).length = es.length ∧ (assignEach es env).findIdx? (·.1) = Option.none := by
  induction h with
  | nil => exact ⟨rfl, rfl⟩
  | @cons n pos es v vs _ _ _ _ _ ih =>
    have e : assignEach (.Name n pos :: es) env = (false, assign (.Name n pos) env) :: assignEach es env := rfl
    rw [e]
    refine ⟨by simp [ih.1], ?_⟩
    rw [List.findIdx?_cons]
    simp [ih.2]
theorem SetTs.run {es : List Expr} {vs : List Value} {lo lo' : Lo} (h : SetTs es vs lo lo') (ok : Ok F lev c) : ∀ {vs' : List Value} {s : Shared}, VsEq vs vs' → St F c lo led s → ∀ {Q : Unit → Shared → Prop} {E}, (∀ s', St F c lo' led s' → Q () s') →
    wpAny (model PG c.w) (c.A F) (assignInOrder ((assignEach es (c.env F)).map (·.2)) vs') Q E s := by
  induction h with
  | nil => intro vs' s q S Q E k; cases q; exact assignInOrder_nil (k _ S)
  | @cons n pos es v vs _ _ _ h1 _ ih =>
    intro vs' s q S Q E k
    cases q with
    | cons q1 q2 =>
      have e : assignEach (.Name n pos :: es) (c.env F) = (false, assign (.Name n pos) (c.env F)) :: assignEach es (c.env F) := rfl
      rw [e]
      exact assignInOrder_cons (Asg.name (pos := pos) h1 ok s _ S q1 _ _ fun s' S' => ih q2 S' k)
theorem St.push {s : Shared} (S : St F c lo led s) {h' : Heap} (he : Heap.ExtBut s.heap.objs.size s.heap h') : St F c lo led { s with heap := h' } := by
  obtain ⟨sm, lk, m, cl, Fm, hlo, D, N, nd⟩ := S
  exact ⟨by have := sm.upd h' s.toks; exact this, lk, m, cl, Fm.extBut he (Nat.le_refl _), hlo, D, N.extBut he (Nat.le_refl _), nd⟩
theorem Asg.tup {d : Addr} {n : Nat} (hm : (d, AO.tup vs) ∈ led) (h : SetTs es vs lo lo') : Asg F lev c lo led (.Tuple es n pos) (.ref d) lo' led := fun ok s v' S q Q E k => by
  cases q.ref_inv
  obtain ⟨ws, g1, g2⟩ := S.tup hm
  obtain ⟨z1, z2⟩ := h.each (c.env F)
  refine assign_Tuple_tuple (items := ws.toArray) rfl ⟨_, g1, rfl, _, rfl⟩ (by rw [z1, h.len, g2.length, List.size_toArray]) z2 fun h' he => ?_
  exact h.run ok g2 (S.push he) k
theorem Asg.attr {t : Expr} {attr : Str} {x C : Addr} {fs fs' : Fields} (ht : Ev F lev c lo led t (.ref x)) (hR : Rep x (.inst C fs) (.inst C fs') led led') (hf : SetF attr v fs fs') (hz : Nat.ble fs.length 1000 = true)
    (h1 : findIn (Mine.fr0.heap_1 c.w.params) (.ref C) "__setattr__" = some (some (.builtin "object.__setattr__"))) (h2 : plainOver (Mine.fr0.heap_1 c.w.params) C = true) (h3 : takerIn (Mine.fr0.heap_1 c.w.params) C attr = some Option.none) (h4 : hasDictIn (Mine.fr0.heap_1 c.w.params) C = true) :
    Asg F lev c lo led (.Attribute t attr pos) v lo led' := fun ok s v' S q Q E k => by
  exact kas_attr (ht ok s S _ _ fun ov s2 q2 S2 => by
    cases q2.ref_inv
    exact setA ok hR hf hz h1 h2 h3 h4 q S2 k)
theorem X.assignT {ts : List Expr} {n : Nat} (h : Ex F lev c lo led e fun v led1 => ∃ lo', Asg F lev c lo led1 (.Tuple ts n p) v lo' led1 ∧ X F lev c Φ lo' led1 rest) (hs : ∀ env : Env, swapsWithSole [.Tuple ts n p] e pos.line env = pure false) (hw : swappedStores [.Tuple ts n p] e (c.env F) = pure Option.none) :
    X F lev c Φ lo led (.Assign [.Tuple ts n p] e pos :: rest) :=
  X.step fun ok s S E => Assign_Tuple (wpAny_mono (h ok s S E) (fun v' s' ⟨v, led1, q, S', lo', ha, k⟩ => ha ok s' v' S' q _ _ fun s2 S2 => ⟨_, _, S2, k⟩) fun _ _ x => x) (hs _) hw
inductive SetNs : List Str → List Value → Lo → Lo → Prop
  | nil {l1 : Lo} : SetNs [] [] l1 l1
  | cons {n : Str} {r : List Str} {z : Value} {zs : List Value} {l1 l2 l3 : Lo} : SetL n z l1 l2 → SetNs r zs l2 l3 → SetNs (n :: r) (z :: zs) l1 l3
theorem SetNs.len {ns : List Str} {vs : List Value} {lo lo' : Lo} (h : SetNs ns vs lo lo') : ns.length = vs.length := by
  induction h with
  | nil => rfl
  | cons _ _ ih => simp [ih]
theorem SetNs.run {ns : List Str} {vs : List Value} {lo lo' : Lo} (h : SetNs ns vs lo lo') (ok : Ok F lev c) : ∀ {vs' : List Value} {s : Shared}, VsEq vs vs' → St F c lo led s → ∀ {Q : Unit → Shared → Prop} {E}, (∀ s', St F c lo' led s' → Q () s') →
    wpAny (model PG c.w) (c.A F) (assignInOrder (ns.map fun n => bindName (c.env F) n) vs') Q E s := by
  induction h with
  | nil => intro vs' s q S Q E k; cases q; exact assignInOrder_nil (k _ S)
  | cons h1 _ ih =>
    intro vs' s q S Q E k
    cases q with
    | cons q1 q2 => exact assignInOrder_cons (bindName_ (St.store ok h1 q1 S fun s' S' => ih q2 S' k))
theorem VsEq.rev {a b : List Value} (h : VsEq a b) : VsEq a.reverse b.reverse := by
  induction h with
  | nil => exact .nil
  | cons q _ ih => rw [List.reverse_cons, List.reverse_cons]; exact ih.app (.cons q .nil)
theorem X.swap {ts : List Expr} {n n2 : Nat} (ns : List Str) (ha : Exs F lev c lo led es fun vs led1 => vs.length ≤ 1000 ∧ ∃ lo', SetNs ns.reverse vs.reverse lo lo' ∧ X F lev c Φ lo' led1 rest) (hs : ∀ env : Env, swapsWithSole [.Tuple ts n p] (.Tuple es n2 p2) pos.line env = pure false) (hw : swappedStores [.Tuple ts n p] (.Tuple es n2 p2) (c.env F) = pure (some ns)) :
    X F lev c Φ lo led (.Assign [.Tuple ts n p] (.Tuple es n2 p2) pos :: rest) :=
  X.step fun ok s S E => Assign_Tuple_swapped (wpAny_mono (Ex.tupX (n := n2) (pos := p2) (P := fun v led2 => ∃ d vs led1 lo', v = .ref d ∧ led2 = (d, AO.tup vs) :: led1 ∧ SetNs ns.reverse vs.reverse lo lo' ∧ X F lev c Φ lo' led1 rest) (fun ok s S pos E => wpAny_mono (ha ok s S pos E) (fun _ _ ⟨vs, led1, q, S1, hz, lo', hn, k⟩ => ⟨vs, led1, q, S1, hz, fun d => ⟨d, vs, led1, lo', rfl, rfl, hn, k⟩⟩) fun _ _ x => x) ok s S E) (fun v' s1 ⟨v, led2, q, S1, d, vs, led1, lo', e1, e2, hn, k⟩ => by
    subst e1 e2
    cases q.ref_inv
    obtain ⟨ws, g1, g2⟩ := S1.tup (.head _)
    have hl : ns.length = ws.toArray.size := by have := hn.len; simp at this; rw [this, List.size_toArray, g2.length]
    rw [hl]
    refine unpackItems_tuple rfl ⟨_, g1, rfl, _, rfl⟩ fun h' he => ?_
    have S2 : St F c lo led1 { s1 with heap := h' } := ((S1.push he).split (foot := led1) (.last (.tail (.all)))).front
    exact hn.run ok g2.rev S2 fun s3 S3 => ⟨lo', led1, S3, k⟩) fun _ _ x => x) (hs _) hw
end
end
section
open PySem PySem.W PySem.Calls PyProof.Rows PySem.Spec PyProof.V
theorem AllObj.of : ∀ {ws : List (Addr × String)} {k : List (Addr × Obj) → Prop}, (∀ its, Objs ws its → k its) → AllObj ws k
  | [], _, h => h [] trivial
  | w :: _, _, h => fun o e => AllObj.of fun its hi => h ((w.1, o) :: its) ⟨⟨rfl, e⟩, hi⟩
noncomputable abbrev asO (l : Led) : ALed := l.map fun p => (p.1, AO.obj p.2)
theorem den_asO (w : World) : ∀ l : Led, DenL w (asO l) l
  | [] => .nil
  | (a, o) :: r => by
    have := DenL.cons (a := a) (Den.obj (w := w) (a := a) (o := o)) (den_asO w r)
    exact this
theorem den_asO_inv {w : World} : ∀ {l x : Led}, DenL w (asO l) x → x = l
  | [], _, .nil => rfl
  | (a, o) :: r, _, h => by
    cases h with
    | cons d h2 =>
      cases d
      rw [den_asO_inv h2]; rfl
theorem objs_one {x : Addr × String} {its : Led} (h : Objs [x] its) : ∃ it, its = [(x.1, it)] := by
  cases its with
  | nil => exact h.elim
  | cons p r =>
    cases r with
    | nil => obtain ⟨a, o⟩ := p; obtain ⟨⟨e1, _⟩, _⟩ := h; exact ⟨o, by rw [show a = x.1 from e1]⟩
    | cons q r => exact h.2.elim
inductive ItsEq : List Value → List Itm → Prop
  | nil : ItsEq [] []
  | cons {v a r xs} : (∀ u h, Itm.Is a u h → VEq v u) → ItsEq r xs → ItsEq (v :: r) (a :: xs)
theorem subL_app {a b : Led} : SubL a (a ++ b) := by
  have : ∀ (x : Led) (y : Led), (∀ p ∈ x, p ∈ y) → SubL x y := by
    intro x
    induction x with
    | nil => intro y h; trivial
    | cons p r ih => intro y h; exact ⟨h p (.head _), ih y fun q hq => h q (.tail _ hq)⟩
  exact this _ _ fun p hp => List.mem_append_left _ hp
section
variable {F : Fn} {lev : Nat} {c : Cx} {lo lo' : Lo} {led led' : ALed} {Φ : Fl} {rest body : List Stmt} {x y e o a b target : Expr} {pos p p2 ap : Pos} {es : List Expr} {vs us : List Value} {v : Value} {P : Value → ALed → Prop} {i j : Int} {t u : Tok}
noncomputable def Fl.turn (Φ : Fl) (its : ALed) (J : Lo → ALed → Prop) : Fl := ⟨fun lo2 led3 => ∃ led4, Split led3 its led4 ∧ J lo2 led4, Φ.ret, fun _ _ => False, fun _ _ => False⟩
theorem items_run {ws : List (Addr × String)} {keep : Led} {s : Shared} {E : Value → Shared → Prop} (ok : Ok F lev c) (J : List Value → Lo → ALed → Prop) (Sm : Sim c.s₀ s)
    (turn : ∀ its v r lo led, Objs ws its → J (v :: r) lo led → ∃ lo', Asg F lev c lo (asO (its ++ keep) ++ led) target v lo' (asO (its ++ keep) ++ led) ∧ X F lev c (Φ.turn (asO (its ++ keep)) (J r)) lo' (asO (its ++ keep) ++ led) body)
    (done : ∀ lo led s', J [] lo led → St F c lo (asO keep ++ led) s' → (Φ.post F c) .next s') :
    ∀ {vs : List Value} {xs : List Itm}, ItsEq vs xs → ∀ {m : Str → Option Value} {news cl : Led} {lo : Lo} {led : ALed}, LoOk F lo → (∀ x v, (x, some v) ∈ lo → ∃ v', m x = some v' ∧ VEq v v') → news.Perm (keep ++ cl) → DenL c.w led cl → (news.map (·.1)).Nodup → (∀ p ∈ news, ∀ q ∈ ws, p.1 ≠ q.1) → (ws.map (·.1)).Nodup → J vs lo led →
      ItemsRest PG c.w (c.A F) E c.g (c.env F) target body (Φ.post F c) s ws keep xs m news := by
  intro vs xs H
  induction H with
  | nil =>
    intro m news cl lo led lk hm hp D nd hw hws hJ h tk Fm N
    exact done lo led _ hJ ⟨Sm.upd _ _, lk, m, keep ++ cl, Fm, hm, (den_asO _ _).app D, news_perm N hp, (hp.map (·.1)).nodup_iff.mp nd⟩
  | @cons v a r xs ha _ ih =>
    intro m news cl lo led lk hm hp D nd hw hws hJ u h tk hu Fm
    refine AllObj.of fun its hi N => ?_
    have hq := ha u h hu
    have hmap := hi.map
    obtain ⟨lo', hA, hX⟩ := turn its v r lo led hi hJ
    have nd2 : ((its ++ (keep ++ cl)).map (·.1)).Nodup := by
      rw [List.map_append, hmap]
      refine List.nodup_append.mpr ⟨hws, (hp.map (·.1)).nodup_iff.mp nd, ?_⟩
      intro x hx y hy e
      subst e
      obtain ⟨q, hq', rfl⟩ := List.mem_map.mp hx
      obtain ⟨z, hz, e2⟩ := List.mem_map.mp hy
      exact hw z (hp.mem_iff.mpr hz) q hq' e2
    have S0 : St F c lo (asO (its ++ keep) ++ led) { s with heap := h, toks := tk } := by
      refine ⟨Sm.upd _ _, lk, m, (its ++ keep) ++ cl, Fm, hm, (den_asO _ _).app D, ?_, by rw [List.append_assoc]; exact nd2⟩
      rw [List.append_assoc]
      exact news_perm N (List.Perm.append_left its hp)
    refine hA ok _ u S0 hq _ _ fun s1 S1 => wpAny_mono (hX ok s1 S1 E) (fun fl s2 h2 => ?_) fun _ _ x => x
    cases fl with
    | ret v' => exact h2
    | brk => obtain ⟨_, _, _, k⟩ := h2; exact k.elim
    | cont => obtain ⟨_, _, _, k⟩ := h2; exact k.elim
    | next =>
      obtain ⟨lo2, led3, S3, led4, Sp, hJ4⟩ := h2
      obtain ⟨sm, lk4, m4, cl4, Fm4, hm4, D4, N4, nd4⟩ := S3.split Sp
      obtain ⟨y1, y2, rfl, d1, d2⟩ := D4.unapp
      obtain rfl := den_asO_inv d1
      rw [List.append_assoc] at N4 nd4
      refine ⟨s2.heap, s2.toks, m4, keep ++ y2, ?_, Fm4, N4, ?_, subL_app, ?_⟩
      · have e1 : s2 = { c.s₀ with heap := s2.heap, toks := s2.toks } := sm
        have e2 : s = { c.s₀ with heap := s.heap, toks := s.toks } := Sm
        rw [e2]; exact e1
      · intro p hp1 q hq1 e
        rw [List.map_append] at nd4
        exact (List.nodup_append.mp nd4).2.2 q.1 (List.mem_map_of_mem hq1) p.1 (List.mem_map_of_mem hp1) e.symm
      · rw [List.map_append] at nd4
        refine ih lk4 hm4 (List.Perm.refl _) d2 (List.nodup_append.mp nd4).2.1 (fun p hp1 q hq1 e => ?_) hws hJ4
        have : q.1 ∈ its.map (·.1) := by rw [hmap]; exact List.mem_map_of_mem hq1
        exact (List.nodup_append.mp nd4).2.2 q.1 this p.1 (List.mem_map_of_mem hp1) e.symm
theorem itsEq_val : ∀ {vs vs' : List Value}, VsEq vs vs' → ItsEq vs (vs'.map .val)
  | _, _, .nil => .nil
  | _, _, .cons q r => .cons (fun u h e => by have e' : u = _ := e; rw [e']; exact q) (itsEq_val r)
inductive ForLP (F : Fn) (lev : Nat) (c : Cx) (Φ : Fl) (lo : Lo) (target : Expr) (body rest : List Stmt) (J : List Value → Lo → ALed → Prop) (v : Value) (led1 : ALed) : Prop
  | mk (ax : Addr) (vs : List Value) (led2 : ALed) (e : v = .ref ax) (R : Rem (ax, AO.list vs) led1 led2) (hJ : J vs lo led2) (hd : ∀ lo led, J [] lo led → X F lev c Φ lo ((ax, .list vs) :: led) rest)
      (ht : ∀ I it o v r lo led, J (v :: r) lo led → ∃ lo', Asg F lev c lo ((I, .obj it) :: (ax, .obj o) :: led) target v lo' ((I, .obj it) :: (ax, .obj o) :: led) ∧ X F lev c (Φ.turn [(I, .obj it), (ax, .obj o)] (J r)) lo' ((I, .obj it) :: (ax, .obj o) :: led) body)
theorem X.forL {iter : Expr} (J : List Value → Lo → ALed → Prop)
    (he : Ex F lev c lo led iter (ForLP F lev c Φ lo target body rest J))
    (hf : ∀ x, foldedSetIterable iter (c.env F) x = pure x) : X F lev c Φ lo led (.For target iter body [] pos :: rest) :=
  X.step fun ok s S E => by
    have S0 := S
    obtain ⟨_, _, m0, _, F0, _⟩ := S0
    refine wpAny_mono (E := fun _ _ => False) (For_turns (E := fun _ _ => False) F0 (wpAny_mono (he ok s S _) (fun v' s1 ⟨v, led1, q, S1, ax, vs, led2, e1, R, hJ, hd, ht⟩ => ?_) fun _ _ x => x) hf PassesOwn.never) (fun _ _ x => x) fun _ _ x => x.elim
    subst e1
    cases q.ref_inv
    obtain ⟨sm, lk, m, cl, Fm, hlo, D, N, nd⟩ := S1
    obtain ⟨l, cr, d1, d2, hp⟩ := R.den D
    cases d1 with
    | @list _ vs' n qv =>
      have hm : (ax, listOf vs'.toArray n) ∈ cl := hp.mem_iff.mpr (.head _)
      refine iter_listTurns rfl Fm N hm rfl rfl fun I hI => ?_
      refine items_run (Φ := Φ.then F lev c rest) (keep := [(ax, listOf vs'.toArray n)]) ok J sm ?_ ?_ (itsEq_val qv) lk hlo hp d2 nd (fun p hp1 q hq1 e => ?_) (by simp) hJ
      · intro its v r lo led hi h
        obtain ⟨it, rfl⟩ := objs_one hi
        exact ht I it _ v r lo led h
      · intro lo led s' h S'
        refine ⟨lo, (ax, .list vs) :: led, ?_, hd lo led h⟩
        obtain ⟨sm, lk, m, cl, Fm, hlo, D, N, nd⟩ := S'
        cases D with
        | cons d r =>
          cases d
          exact ⟨sm, lk, m, _, Fm, hlo, .cons (.list qv) r, N, nd⟩
      · rw [List.mem_singleton.mp hq1] at e
        have := hI p hp1
        rw [e] at this
        exact Nat.lt_irrefl _ this
theorem letGo_name {E : Value → Shared → Prop} {n : Str} {I : Addr} {v : Value} {M : Model} {A : Around} {Q : Unit → Shared → Prop} {s : Shared} (h : Q () s) : wpAny M A (letOwnedTupleGo (.Name n pos) (.ref I) v) Q E s := wpAny_pure h
theorem callTX {fn : Str} {T : String} {P' : List Value → ALed → Prop} (ok : Ok F lev c) (hn : nsIn (Mine.fr0.heap_1 c.w.params) mainGlobals fn = some Option.none) (hv : bootBuiltins fn = some (.type T)) (hne : (fn == ("__name__" : Str)) = false) (hg : isGlob F fn = true) (hs : (e :: es).all noStar = true) (ha : Exs F lev c lo led (e :: es) P') {s : Shared} (S : St F c lo led s) {Q E}
    (h : ∀ vs vs' led1 s', VsEq vs vs' → St F c lo led1 s' → P' vs led1 → wpAny (model PG c.w) (c.A F) (call (.type T) vs') Q E s') : wpAny (model PG c.w) (c.A F) (eval (.Call (.Name fn p) (e :: es) [] pos) (c.env F)) Q E s := by
  obtain ⟨g1, g2⟩ := Bool.and_eq_true_iff.mp hg
  have S0 := S
  obtain ⟨_, _, m, cl, Fm, _⟩ := S0
  have hs' := Bool.and_eq_true_iff.mp (List.all_cons ▸ hs)
  refine Call_ (nm_B Fm ok.X (topRead_of ok.T) hn hv (fun e => by rw [e, beq_self_eq_true] at hne; cases hne) ?_ ok.k (of_decide_eq_true g1) (Bool.not_eq_true' _ ▸ g2)) eval_Call
  exact PyProof.Rows.callWith_type1 (wpAny_mono (ha ok s S pos E) (fun vs' s' ⟨vs, led1, q, S1, k⟩ => h vs vs' led1 s' q S1 k) fun _ _ x => x) (star_no hs'.1 _ _) (all_plain hs'.2 pos _)
noncomputable def rangeVs (n : Nat) : List Value := (List.range n).map fun (i : Nat) => Value.int i 0
theorem itsEq_range (n : Nat) : ItsEq (rangeVs n) ((List.range n).map fun (i : Nat) => Itm.tok fun t => Value.int i t) := by
  unfold rangeVs
  induction List.range n with
  | nil => exact .nil
  | cons i r ih => exact .cons (fun u h ⟨t, e⟩ => by rw [e]; exact .int _ _ _) ih
theorem X.forR {nm : Str} {p1 p3 : Pos} (J : List Value → Lo → ALed → Prop) (hs : noStar e = true) (hn : nsIn (Mine.fr0.heap_1 c.w.params) mainGlobals "range" = some Option.none) (hg : isGlob F "range" = true)
    (he : Ex F lev c lo led e fun v led1 => ∃ (n : Nat) (t : Tok), v = .int n t ∧ n ≤ 1000 ∧ J (rangeVs n) lo led1)
    (hd : ∀ lo led, J [] lo led → X F lev c Φ lo led rest)
    (ht : ∀ I it v r lo led, J (v :: r) lo led → ∃ lo', SetL nm v lo lo' ∧ X F lev c (Φ.turn [(I, .obj it)] (J r)) lo' ((I, .obj it) :: led) body)
    (hf : ∀ x, foldedSetIterable (.Call (.Name "range" p) [e] [] p1) (c.env F) x = pure x) : X F lev c Φ lo led (.For (.Name nm p3) (.Call (.Name "range" p) [e] [] p1) body [] pos :: rest) :=
  X.step fun ok s S E => by
    have S0 := S
    obtain ⟨_, _, m0, _, F0, _⟩ := S0
    refine wpAny_mono (E := fun _ _ => False) (For_turns (E := fun _ _ => False) F0 (callTX (P' := fun vs led1 => ∃ (n : Nat) (t : Tok), vs = [.int n t] ∧ n ≤ 1000 ∧ J (rangeVs n) lo led1) ok hn rfl rfl hg (by simp [hs]) (Exs.cons hs (he.mono fun v l ⟨n, t, e1, e2, e3⟩ => Exs.nil ⟨n, t, by rw [e1], e2, e3⟩)) S fun vs vs' led1 s1 q S1 ⟨n, t, e1, hz, hJ⟩ => ?_) hf PassesOwn.never) (fun _ _ x => x) fun _ _ x => x.elim
    subst e1
    obtain ⟨v', rfl, q1⟩ := q.one
    obtain ⟨t', rfl⟩ := q1.int_inv
    refine call_range_1 ?_
    have hr : IsRange (s1.heap.push { cls := .type "range", data := .fields #[.int 0 s1.toks, .int n t', .int 1 (s1.toks + 1)] }) s1.heap.objs.size 0 n 1 s1.toks t' (s1.toks + 1) := IsRange.new _ _ _ _ _ _ _
    have hrn : Builtin.Range.rangeSize 0 (n : Int) 1 = (n : Int) := by rw [rangeSize_one]; split <;> omega
    obtain ⟨sm, lk, m, cl, Fm, hlo, D, N, nd⟩ := S1.grow (h' := s1.heap.push { cls := .type "range", data := .fields #[.int 0 s1.toks, .int n t', .int 1 (s1.toks + 1)] }) (fun b o e => Heap.get?_push_of_some _ e) (s1.toks + 1 + 1)
    generalize hs2 : ({ s1 with heap := s1.heap.push { cls := .type "range", data := .fields #[.int 0 s1.toks, .int n t', .int 1 (s1.toks + 1)] }, toks := s1.toks + 1 + 1 } : Shared) = s2 at *
    have hr2 : IsRange s2.heap s1.heap.objs.size 0 n 1 s1.toks t' (s1.toks + 1) := by rw [← hs2]; exact hr
    refine wpAny_pyIter_range hr2 (small_one (by omega) (by omega) (by omega) (by omega)) ?_
    have W : Walks PG c.w (c.A F) s2.heap.objs.size [s2.heap.objs.size] [s2.heap.objs.size] n (fun i v => i < n ∧ ∃ t, v = .int (0 + (i : Nat) * 1) t) (fun i h => IsRangeIter h s2.heap.objs.size (0 + (i : Nat) * 1) ((n : Int) - (i : Nat)) 1) := (Walks.range rfl _ 0 1 n).bound
    refine ktu_core (tk0 := s2.toks) (ws := [(s2.heap.objs.size, "range_iterator")]) (keep := []) (KTurns.ofWalks W fun i v s Q E st q => letGo_name q) (xs := (List.range n).map fun (i : Nat) => Itm.tok fun t => Value.int i t) (by simp) ?_ ?_ ?_ ?_ ?_ ?_ ?_ ?_ (Fm.push _) (fun p hp => ⟨Heap.get?_push_of_some _ (N p hp).1, (N p hp).2⟩) trivial ?_
    · rintro i v h ⟨hi, t, rfl⟩
      exact ⟨Itm.tok fun t => Value.int i t, by rw [List.getElem?_map, List.getElem?_range hi]; rfl, ⟨t, by rw [Int.mul_one, Int.zero_add]⟩⟩
    · intro i h st
      exact ⟨[(s2.heap.objs.size, _)], ⟨⟨rfl, rfl⟩, trivial⟩, fun p hp => by rw [List.mem_singleton.mp hp]; exact st⟩
    · intro b hb
      have hb' : b = s2.heap.objs.size := by simpa using hb
      rw [hb']
      exact ⟨.head _, next_is_new Fm⟩
    · intro b hb; simpa using hb
    · intro b hb; exact .inl (by simpa using hb)
    · intro hI
      exact absurd Fm.ns.lt ((List.mem_singleton.mp hI) ▸ Nat.lt_irrefl _)
    · intro p hp hI
      exact absurd (Heap.lt_size (N p hp).1) ((List.mem_singleton.mp hI) ▸ Nat.lt_irrefl _)
    · show IsRangeIter _ _ _ _ _
      rw [hrn]; simpa using Heap.get?_push_size _ rfl
    · refine items_run (Φ := Φ.then F lev c rest) (keep := []) ok J sm ?_ ?_ (itsEq_range n) lk hlo (List.Perm.refl _) D nd (fun p hp1 q hq1 e => ?_) (by simp) hJ
      · intro its v r lo led hi h
        obtain ⟨it, rfl⟩ := objs_one hi
        obtain ⟨lo', h1, h2⟩ := ht _ it v r lo led h
        exact ⟨lo', Asg.name h1, h2⟩
      · intro lo led s' h S'
        exact ⟨lo, led, S', hd lo led h⟩
      · rw [List.mem_singleton.mp hq1] at e
        have := Heap.lt_size (N p hp1).1
        rw [e] at this
        exact Nat.lt_irrefl _ this
theorem X.while {test : Expr} (J : Nat → Lo → ALed → Prop) (n : Nat) (h0 : J n lo led)
    (turn : ∀ n lo led, J n lo led → (Ts F lev c lo led test false ∧ X F lev c Φ lo led rest) ∨ (Ts F lev c lo led test true ∧ X F lev c ⟨fun lo led => ∃ m, m < n ∧ J m lo led, Φ.ret, fun _ _ => False, fun _ _ => False⟩ lo led body)) :
    X F lev c Φ lo led (.While test body [] pos :: rest) :=
  X.step fun ok s S E => by
    refine wpAny_mono (E := fun _ _ => False) (wpAny_While (codeAny_whileLoop (fun n s' => ∃ lo led, St F c lo led s' ∧ J n lo led) ?_ n ⟨lo, led, S, h0⟩)) (fun _ _ x => x) fun _ _ x => x.elim
    rintro n s' ⟨lo, led, S', hJ⟩
    rcases turn n lo led hJ with ⟨h1, h2⟩ | ⟨h1, h2⟩
    · refine h1 ok s' S' _ _ fun s2 S2 => ?_
      rw [if_neg Bool.false_ne_true]
      exact wpAny_execs_nil ⟨lo, led, S2, h2⟩
    · refine h1 ok s' S' _ _ fun s2 S2 => ?_
      rw [if_pos rfl]
      refine wpAny_mono (h2 ok s2 S2 (fun _ _ => False)) (fun f s₃ h₃ => ?_) fun _ _ x => x.elim
      cases f with
      | next => obtain ⟨lo', led', S3, m, hm, hJ'⟩ := h₃; exact ⟨m, hm, lo', led', S3, hJ'⟩
      | cont => obtain ⟨_, _, _, k⟩ := h₃; exact k.elim
      | brk => obtain ⟨_, _, _, k⟩ := h₃; exact k.elim
      | ret v => exact h₃
end
end
section
open PySem PySem.W PySem.Calls PyProof.Rows PySem.Spec PyProof.V
section
variable {F : Fn} {lev : Nat} {c : Cx} {lo lo' : Lo} {led led' : ALed} {Φ : Fl} {rest body : List Stmt} {l r x y e o a b target : Expr} {pos p2 ap pp : Pos} {es : List Expr} {vs us : List Value} {v v1 v2 v3 : Value} {P : Value → ALed → Prop} {i j : Int} {t u : Tok} {p q : Bool} {op op2 : CmpOp}
noncomputable def Cmp (F : Fn) (lev : Nat) (c : Cx) (lo : Lo) (led : ALed) (op : CmpOp) (v u : Value) (p : Bool) : Prop :=
  Ok F lev c → ∀ s a' b', VEq v a' → VEq u b' → St F c lo led s → ∀ Q E, (∀ s', St F c lo led s' → Q (.bool p) s') → wpAny (model PG c.w) (c.A F) (compareOp op a' b') Q E s
theorem Ts.cmp (h1 : Ev F lev c lo led l v1) (h2 : Ev F lev c lo led r v2) (h : Cmp F lev c lo led op v1 v2 p) (hm : behindInMarks op r = false) : Ts F lev c lo led (.Compare l [op] [r] pos) p := cmpT h1 h2 hm fun ok a' b' s q1 q2 S Q E k => h ok s a' b' q1 q2 S Q E k
theorem Ev.cmp (h1 : Ev F lev c lo led l v1) (h2 : Ev F lev c lo led r v2) (h : Cmp F lev c lo led op v1 v2 p) (hm : behindInMarks op r = false) : Ev F lev c lo led (.Compare l [op] [r] pos) (.bool p) := by
  intro ok s S Q E k
  exact wpAny_Compare1 (h1 ok s S _ _ fun a' s1 q1 S1 => h2 ok s1 S1 _ _ fun b' s2 q2 S2 => h ok s2 a' b' q1 q2 S2 _ _ fun s3 S3 => k _ _ (.refl _) S3) hm
theorem Ts.chain (h1 : Ev F lev c lo led l v1) (h2 : Ev F lev c lo led r v2) (h3 : p = true → Ev F lev c lo led x v3) (c1 : Cmp F lev c lo led op v1 v2 p) (c2 : Cmp F lev c lo led op2 v2 v3 q) (hm : lastMarks [op, op2] [r, x] = false) : Ts F lev c lo led (.Compare l [op, op2] [r, x] pos) (p && q) := by
  intro ok s S Q E k
  refine isTrue_chain (h1 ok s S _ _ fun a' s1 q1 S1 => test_link (h2 ok s1 S1 _ _ fun b' s2 q2 S2 => c1 ok s2 a' b' q1 q2 S2 _ _ fun s3 S3 => wpAny_truthy_bool ?_)) hm
  cases p with
  | false => exact k s3 S3
  | true => exact test_last (h3 rfl ok s3 S3 _ _ fun d' s4 q4 S4 => c2 ok s4 b' d' q2 q4 S4 _ _ fun s5 S5 => wpAny_truthy_bool (k s5 S5))
theorem Cmp.gt : Cmp F lev c lo led .Gt (.int i t) (.int j u) (decide (j < i)) := fun ok s a' b' q1 q2 S Q E k => by obtain ⟨_, rfl⟩ := q1.int_inv; obtain ⟨_, rfl⟩ := q2.int_inv; exact gt_int (k _ S)
theorem Cmp.lt : Cmp F lev c lo led .Lt (.int i t) (.int j u) (decide (i < j)) := fun ok s a' b' q1 q2 S Q E k => by obtain ⟨_, rfl⟩ := q1.int_inv; obtain ⟨_, rfl⟩ := q2.int_inv; exact lt_int (k _ S)
theorem Cmp.le : Cmp F lev c lo led .LtE (.int i t) (.int j u) (decide (i ≤ j)) := fun ok s a' b' q1 q2 S Q E k => by obtain ⟨_, rfl⟩ := q1.int_inv; obtain ⟨_, rfl⟩ := q2.int_inv; exact le_int (k _ S)
theorem Cmp.ge : Cmp F lev c lo led .GtE (.int i t) (.int j u) (decide (j ≤ i)) := fun ok s a' b' q1 q2 S Q E k => by obtain ⟨_, rfl⟩ := q1.int_inv; obtain ⟨_, rfl⟩ := q2.int_inv; exact ge_int (k _ S)
theorem Cmp.eq : Cmp F lev c lo led .Eq (.int i t) (.int j u) (decide (i = j)) := fun ok s a' b' q1 q2 S Q E k => by obtain ⟨_, rfl⟩ := q1.int_inv; obtain ⟨_, rfl⟩ := q2.int_inv; exact eq_int (by rw [show (i == j) = decide (i = j) from rfl]; exact k _ S)
theorem Cmp.ne : Cmp F lev c lo led .NotEq (.int i t) (.int j u) (decide (i ≠ j)) := fun ok s a' b' q1 q2 S Q E k => by
  obtain ⟨_, rfl⟩ := q1.int_inv; obtain ⟨_, rfl⟩ := q2.int_inv
  exact ne_int (by rw [show (i != j) = decide (i ≠ j) by rw [bne, decide_not]; rfl]; exact k _ S)
theorem VEq.str_inv {n : Str} {t : Tok} {v : Value} (h : VEq (.str n t) v) : ∃ t', v = .str n t' := by
  cases h with
  | refl => exact ⟨_, rfl⟩
  | str => exact ⟨_, rfl⟩
theorem Cmp.eqs {m n : Str} (h : (m == n) = p) : Cmp F lev c lo led .Eq (.str m t) (.str n u) p := fun ok s a' b' q1 q2 S Q E k => by obtain ⟨_, rfl⟩ := q1.str_inv; obtain ⟨_, rfl⟩ := q2.str_inv; exact PyProof.Rows.eq_str (by rw [h]; exact k _ S)
theorem Cmp.isN : Cmp F lev c lo led .Is .none .none true := fun ok s a' b' q1 q2 S Q E k => by cases q1.none_inv; cases q2.none_inv; exact is_none_none (k _ S)
theorem Cmp.isF (h : (v == Value.none) = false) : Cmp F lev c lo led .Is v .none false := fun ok s a' b' q1 q2 S Q E k => by
  cases q2.none_inv
  have : a' ≠ .none := by intro e; subst e; cases q1; rw [beq_self_eq_true] at h; cases h
  exact is_none_ne this (k _ S)
theorem Cmp.isnotN : Cmp F lev c lo led .IsNot .none .none false := fun ok s a' b' q1 q2 S Q E k => by cases q1.none_inv; cases q2.none_inv; exact isnot_none_none (k _ S)
theorem Cmp.isnot (h : (v == Value.none) = false) : Cmp F lev c lo led .IsNot v .none true := fun ok s a' b' q1 q2 S Q E k => by
  cases q2.none_inv
  have : a' ≠ .none := by intro e; subst e; cases q1; rw [beq_self_eq_true] at h; cases h
  exact isnot_none_ne this (k _ S)
theorem Cmp.to (h : Cmp F lev c lo led op v1 v2 p) (e : p = q) : Cmp F lev c lo led op v1 v2 q := e ▸ h
theorem Ts.to {e : Expr} (h : Ts F lev c lo led e p) (k : p = q) : Ts F lev c lo led e q := k ▸ h
theorem Ev.or (h1 : Ev F lev c lo led a (.bool p)) (h2 : p = false → Ev F lev c lo led (.BoolOp .Or (b :: es) pos) (.bool q)) : Ev F lev c lo led (.BoolOp .Or (a :: b :: es) pos) (.bool (p || q)) := fun ok s S Q E k =>
  BoolOp_or (h1 ok s S _ _ fun v' s1 q1 S1 => by
    cases q1.bool_inv
    refine wpAny_truthy_bool ?_
    cases p with
    | true => exact k _ s1 (.refl _) S1
    | false => exact h2 rfl ok s1 S1 _ _ k)
theorem Ev.bone {op : BoolOp} (h : Ev F lev c lo led a v) : Ev F lev c lo led (.BoolOp op [a] pos) v := h
theorem Ev.neg {k : Nat} : Ev F lev c lo led (.UnaryOp .USub (.Constant (.int i) k p2) pos) (.int (-i) 0) := by
  intro ok s S Q E h
  exact UnaryOp_ (wpAny_Constant_int (PyProof.Rows.neg_int (h _ _ (.int _ _ _) (S.toks _))))
theorem Ev.str {k : Nat} {n : Str} : Ev F lev c lo led (.Constant (.str n) k pos) (.str n 0) := by
  intro ok s S Q E h
  exact wpAny_Constant_str (h _ _ (.str _ _ _) (S.toks _))
theorem Ev.glob {n : Str} (hn : nsIn (Mine.fr0.heap_1 c.w.params) mainGlobals n = some (some v)) (hg : isGlob F n = true) : Ev F lev c lo led (.Name n pos) v := by
  intro ok s S Q E h
  obtain ⟨g1, g2⟩ := Bool.and_eq_true_iff.mp hg
  have S0 := S
  obtain ⟨_, _, m, cl, Fm, _⟩ := S0
  exact nm_K Fm ok.X (topRead_of ok.T) hn (h _ _ (.refl _) S) ok.k (of_decide_eq_true g1) (Bool.not_eq_true' _ ▸ g2)
inductive TupAt (c : Cx) (led : ALed) (a : Addr) (vs : List Value) : Prop
  | led : (a, AO.tup vs) ∈ led → TupAt c led a vs
  | top {n : Nat} : (Mine.fr0.heap_1 c.w.params).lookup a = some { cls := .type "tuple", data := .seq vs.toArray n } → TupAt c led a vs
theorem TupAt.get {d : Addr} (ok : Ok F lev c) (h : TupAt c led d vs) {s : Shared} (S : St F c lo led s) : ∃ vs' n, s.heap.get? d = some { cls := .type "tuple", data := .seq vs'.toArray n } ∧ VsEq vs vs' := by
  cases h with
  | led h => obtain ⟨ws, g1, g2⟩ := S.tup h; exact ⟨ws, _, g1, g2⟩
  | @top n e =>
    refine ⟨vs, n, S.In ok _ _ e, ?_⟩
    induction vs with
    | nil => exact .nil
    | cons v r ih => exact .cons (.refl _) (by
        clear ih e
        induction r with
        | nil => exact .nil
        | cons v r ih => exact .cons (.refl _) ih)
inductive TCmp : List Value → List Value → Bool → Prop
  | nn : TCmp [] [] true
  | nl {b : Value} {t : List Value} : TCmp [] (b :: t) false
  | nr {a : Value} {r : List Value} : TCmp (a :: r) [] false
  | ds {m n : Str} {t t' : Tok} {r r' : List Value} : (m == n) = false → TCmp (.str m t :: r) (.str n t' :: r') false
  | ss {m n : Str} {t t' : Tok} {r r' : List Value} {k : Bool} : (m == n) = true → TCmp r r' k → TCmp (.str m t :: r) (.str n t' :: r') k
  | li {i j : Int} {t t' : Tok} : TCmp [.int i t] [.int j t'] (decide (i = j))
theorem TCmp.to {a b : List Value} {k : Bool} (h : TCmp a b k) : ∀ {a' b' : List Value}, VsEq a a' → VsEq b b' → TupCmp a' b' k := by
  induction h with
  | nn => intro a' b' p q; cases p; cases q; exact .nn
  | nl => intro a' b' p q; cases p; cases q; exact .nl
  | nr => intro a' b' p q; cases p; cases q; exact .nr
  | ds e => intro a' b' p q; cases p with | cons p1 p2 => cases q with | cons q1 q2 => obtain ⟨_, rfl⟩ := p1.str_inv; obtain ⟨_, rfl⟩ := q1.str_inv; exact .diff (eqg_str false e)
  | ss e _ ih => intro a' b' p q; cases p with | cons p1 p2 => cases q with | cons q1 q2 => obtain ⟨_, rfl⟩ := p1.str_inv; obtain ⟨_, rfl⟩ := q1.str_inv; exact .same (eqg_str true e) (ih p2 q2)
  | li =>
    intro a' b' p q
    obtain ⟨_, rfl, p1⟩ := p.one
    obtain ⟨_, rfl, q1⟩ := q.one
    obtain ⟨_, rfl⟩ := p1.int_inv; obtain ⟨_, rfl⟩ := q1.int_inv
    exact tupcmp_last eqg_int
theorem Ok.units (ok : Ok F lev c) : (c.A F).units < cLine := Nat.lt_of_le_of_lt (Nat.le_add_right _ _) ok.u
theorem Cmp.teq {d d2 : Addr} (h1 : TupAt c led d vs) (h2 : TupAt c led d2 us) (h : TCmp vs us p) : Cmp F lev c lo led .Eq (.ref d) (.ref d2) p := fun ok s a' b' q1 q2 S Q E k => by
  cases q1.ref_inv; cases q2.ref_inv
  obtain ⟨ws, n, g1, g2⟩ := h1.get ok S
  obtain ⟨zs, n2, g3, g4⟩ := h2.get ok S
  exact tup_eq g1 g3 (h.to g2 g4) ok.units (k _ S)
theorem Cmp.tne {d d2 : Addr} (h1 : TupAt c led d vs) (h2 : TupAt c led d2 us) (h : TCmp vs us p) : Cmp F lev c lo led .NotEq (.ref d) (.ref d2) (!p) := fun ok s a' b' q1 q2 S Q E k => by
  cases q1.ref_inv; cases q2.ref_inv
  obtain ⟨ws, n, g1, g2⟩ := h1.get ok S
  obtain ⟨zs, n2, g3, g4⟩ := h2.get ok S
  exact tup_ne g1 g3 (h.to g2 g4) ok.units (k _ S)
theorem St.dict {d : Addr} {kvs : List (Int × Value)} {s : Shared} (S : St F c lo led s) (hm : (d, AO.idict kvs) ∈ led) : s.heap.DictOf (intKind PG c.w) d kvs ∧ (d == sysModules) = false := by
  obtain ⟨sm, lk, m, cl, Fm, hlo, D, N, nd⟩ := S
  obtain ⟨k, dn, hl⟩ := D.get hm
  cases dn with
  | idict h1 h2 => exact ⟨kda_dict N (hl _ (.head _)) h2, h1⟩
theorem Ev.ditem {d : Addr} {kvs : List (Int × Value)} (he : Ev F lev c lo led a (.ref d)) (h2 : Ev F lev c lo led b (.int i t)) (hm : (d, AO.idict kvs) ∈ led) (hv : valueAt kvs i = some v)
    (hs : ∀ x t, subscripted b false (.ref x) (.int i t) = operate [.ref x, .int i t] (getItem (.ref x) (.int i t)) := by with_unfolding_all exact fun _ _ => rfl) : Ev F lev c lo led (.Subscript a b pos) v := by
  intro ok s S Q E k
  refine Subscript_ (he ok s S _ _ fun v1 s1 q1 S1 => h2 ok s1 S1 _ _ fun v2 s2 q2 S2 => ?_)
  cases q1.ref_inv
  obtain ⟨t2, rfl⟩ := q2.int_inv
  obtain ⟨hD, hlo⟩ := S2.dict hm
  exact tail_any hD.typeIs slot_dict_getitem.lookup (wpAny_getItem_of (intKind_is _ _ _ _) hD.mapOf hv (k _ _ (.refl _) (S2.toks _))) (hs _ _)
theorem Cmp.inD {d : Addr} {kvs : List (Int × Value)} (hm : (d, AO.idict kvs) ∈ led) (hv : (valueAt kvs i).isSome = p) : Cmp F lev c lo led .In (.int i t) (.ref d) p := fun ok s a' b' q1 q2 S Q E k => by
  cases q2.ref_inv
  obtain ⟨t2, rfl⟩ := q1.int_inv
  obtain ⟨hD, hlo⟩ := S.dict hm
  exact wpAny_in_of (intKind_is _ _ _ _) hlo hD.mapOf (by rw [hv]; exact k _ (S.toks _))
end
end
section
open PySem PySem.W PySem.Calls PyProof.Rows PySem.Spec PyProof.V
inductive AddF (n : Str) (v : Value) : Fields → Fields → Prop
  | nil : AddF n v [] [(n, v)]
  | cons {p r r'} : AddF n v r r' → AddF n v (p :: r) (p :: r')
theorem AddF.eq {n : Str} {v : Value} {a b : Fields} (h : AddF n v a b) : b = a ++ [(n, v)] := by
  induction h with
  | nil => rfl
  | cons _ ih => rw [ih]; rfl
theorem FsEq.add {w : World} {n : Str} {v v' : Value} {t : Tok} (q : VEq v v') : ∀ {fs : Fields} {es : List DictEntry}, FsEq w fs es → (fs.map (·.1)).contains n = false → FsEq w (fs ++ [(n, v)]) (putL n (PyData.keyHash w.params n) (.str n t) v' es)
  | _, _, .nil, _ => .cons q .nil
  | _, _, .cons (n := n₁) (t := t₁) (v' := v₁') (r' := r') hv hr, e => by
    rw [List.map_cons, List.contains_cons, Bool.or_eq_false_iff] at e
    have hq : Value.isStr (.str n₁ t₁) n = false := isStr_ne fun z => by rw [show n₁ = n from z] at e; rw [beq_self_eq_true] at e; cases e.1
    unfold putL
    dsimp only
    rw [hq, if_neg Bool.false_ne_true]
    exact .cons hv (FsEq.add q hr e.2)
section
variable {F : Fn} {lev : Nat} {c : Cx} {lo lo' : Lo} {led led' : ALed} {Φ : Fl} {rest body : List Stmt} {l r x y e o a b target : Expr} {pos p2 ap pp : Pos} {es : List Expr} {vs us : List Value} {v v1 v2 v3 : Value} {P : Value → ALed → Prop} {i j : Int} {t u : Tok} {p q : Bool} {op op2 : CmpOp}
theorem addA {x C : Addr} {fs fs' : Fields} {attr : Str} {v v' : Value} (ok : Ok F lev c) (hR : Rep x (.inst C fs) (.inst C fs') led led') (hf : AddF attr v fs fs') (hn0 : (fs.map (·.1)).contains attr = false) (hz : Nat.ble (fs.length + 1) 1000 = true)
    (h1 : findIn (Mine.fr0.heap_1 c.w.params) (.ref C) "__setattr__" = some (some (.builtin "object.__setattr__"))) (h2 : plainOver (Mine.fr0.heap_1 c.w.params) C = true) (h3 : takerIn (Mine.fr0.heap_1 c.w.params) C attr = some none) (h4 : hasDictIn (Mine.fr0.heap_1 c.w.params) C = true)
    (q : VEq v v') {s : Shared} (S : St F c lo led s) {Q : Unit → Shared → Prop} {E : Value → Shared → Prop} {A : Around} (h : ∀ s', St F c lo led' s' → Q () s') : wpAny (model PG c.w) A (setAttr (.ref x) attr v') Q E s := by
  obtain ⟨sm, lk, m, cl, Fm, hlo, D, N, nd⟩ := S
  obtain ⟨pre, l, post, rfl, d, k⟩ := hR.den D
  obtain rfl := hf.eq
  cases d with
  | @inst _ _ dx es n he hn =>
    have g1 := FsEq.add (w := c.w) (t := s.toks + 1) q he hn0
    have g2 : (getL attr es).isSome = true := by rw [he.no hn0]; rfl
    have e1 : pre ++ ([(x, instObj C dx), (dx, dictOf es n)] ++ post) = (pre ++ [(x, instObj C dx)]) ++ (dx, dictOf es n) :: post := by simp
    rw [e1] at N nd
    obtain ⟨n1, n2⟩ := nodup_mid nd
    have hnd : ((fs ++ [(attr, v)]).map (·.1)).Nodup := by
      rw [List.map_append, List.nodup_append]
      refine ⟨hn, by simp, fun a ha b hb e => ?_⟩
      have : b = attr := by simpa using hb
      subst this; subst e
      have h9 : (fs.map (·.1)).contains a = true := List.contains_iff_mem.mpr ha
      rw [h9] at hn0; cases hn0
    refine set_dict (es' := putL attr (PyData.keyHash c.w.params attr) (.str attr (s.toks + 1)) v' es) Fm ok.X N (InstAt.of_news N (List.mem_append_left _ (List.mem_append_right _ (.head _))) (List.mem_append_right _ (.head _))) rfl h1 h2 h3 h4 g2 rfl (upd_of n1 n2) ?_ fun h' F' N' => h _ ⟨sm.upd _ _, lk, m, _, F', hlo, k _ (Den.inst (dx := dx) (n := putN attr es n) g1 hnd), ?_, ?_⟩
    · rw [← g1.len, List.length_append]; exact Nat.le_of_ble_eq_true hz
    · have e2 : pre ++ ([(x, instObj C dx), (dx, dictOf (putL attr (PyData.keyHash c.w.params attr) (.str attr (s.toks + 1)) v' es) (putN attr es n))] ++ post) = (pre ++ [(x, instObj C dx)]) ++ (dx, dictOf (putL attr (PyData.keyHash c.w.params attr) (.str attr (s.toks + 1)) v' es) (putN attr es n)) :: post := by simp
      rw [e2]; exact N'
    · have e3 : ((pre ++ ([(x, instObj C dx), (dx, dictOf (putL attr (PyData.keyHash c.w.params attr) (.str attr (s.toks + 1)) v' es) (putN attr es n))] ++ post)).map (·.1)) = (((pre ++ [(x, instObj C dx)]) ++ (dx, dictOf es n) :: post).map (·.1)) := by simp
      rw [e3]; exact nd
inductive NewA (F : Fn) (lev : Nat) (c : Cx) (lo : Lo) (led1 : ALed) (t : Expr) (attr : Str) (v : Value) (k : ALed → Prop) : Prop
  | intro (x C : Addr) (fs fs' : Fields) (led' : ALed) (ht : Ev F lev c lo led1 t (.ref x)) (hR : Rep x (.inst C fs) (.inst C fs') led1 led') (hf : AddF attr v fs fs') (hn : (fs.map (·.1)).contains attr = false) (hz : Nat.ble (fs.length + 1) 1000 = true)
    (h1 : findIn (Mine.fr0.heap_1 c.w.params) (.ref C) "__setattr__" = some (some (.builtin "object.__setattr__"))) (h2 : plainOver (Mine.fr0.heap_1 c.w.params) C = true) (h3 : takerIn (Mine.fr0.heap_1 c.w.params) C attr = some Option.none) (h4 : hasDictIn (Mine.fr0.heap_1 c.w.params) C = true) (hk : k led') : NewA F lev c lo led1 t attr v k
theorem X.newattr {t e : Expr} {attr : Str} (hc : noComp e = true) (h : Ex F lev c lo led e fun v led1 => NewA F lev c lo led1 t attr v fun led' => X F lev c Φ lo led' rest) :
    X F lev c Φ lo led (.Assign [.Attribute t attr pp] e pos :: rest) :=
  X.step fun ok s S E => plainObj_wpAny_Assign_Attribute (wpAny_mono (h ok s S E) (fun v' s' ⟨v, led1, q, S', x, C, fs, fs', led', ht, hR, hf, hn, hz, h1, h2, h3, h4, k⟩ => ht ok s' S' _ _ fun ov s2 q2 S2 => by
    cases q2.ref_inv
    exact addA ok hR hf hn hz h1 h2 h3 h4 q S2 fun s3 S3 => ⟨lo, led', S3, k⟩) fun _ _ x => x) (swaps_no hc _ _ _)
theorem X.newattrV {t e : Expr} {attr : Str} {x C : Addr} {fs fs' : Fields} (hv : Ev F lev c lo led e v) (ht : Ev F lev c lo led t (.ref x)) (hR : Rep x (.inst C fs) (.inst C fs') led led') (hf : AddF attr v fs fs') (hn : (fs.map (·.1)).contains attr = false) (hc : noComp e = true) (hz : Nat.ble (fs.length + 1) 1000 = true)
    (h1 : findIn (Mine.fr0.heap_1 c.w.params) (.ref C) "__setattr__" = some (some (.builtin "object.__setattr__"))) (h2 : plainOver (Mine.fr0.heap_1 c.w.params) C = true) (h3 : takerIn (Mine.fr0.heap_1 c.w.params) C attr = some none) (h4 : hasDictIn (Mine.fr0.heap_1 c.w.params) C = true)
    (k : X F lev c Φ lo led' rest) : X F lev c Φ lo led (.Assign [.Attribute t attr pp] e pos :: rest) := X.newattr hc (Ex.ev hv ⟨x, C, fs, fs', led', ht, hR, hf, hn, hz, h1, h2, h3, h4, k⟩)
theorem callC {f : Addr} {vs vs' : List Value} {foot r : ALed} {Post : (Value → ALed → Prop) → Prop} {P : Value → ALed → Prop} {lf dp un : Nat} {gd : Option (List Code)} {R : Result → Shared → Prop} (ok : Ok F lev c) (hv0 : 0 < lev) (H : HSpec lf f vs foot Post) (hd : dp + lf < recursionLimit) (hu : un + 20 * lf < cLine) (q : VsEq vs vs') (Sp : Split led foot r) (hp : Post fun v led' => P v (led' ++ r))
    {s : Shared} (S : St F c lo led s) (hR : ∀ v v' led' s', VEq v v' → St F c lo led' s' → P v led' → R (.ok (.ret v')) s') : codeAny (model PG c.w) { handled := none, depth := dp, frames := some (c.top :: c.outer), guards := gd, units := un } (.call (.ref f) ⟨vs', []⟩) R s := by
  obtain ⟨sm, lk, m, cl, Fm, hlo, D, N, nd⟩ := S.split Sp
  obtain ⟨cf, cr, rfl, d1, d2⟩ := D.unapp
  rw [List.map_append] at nd
  have nd' := List.nodup_append.mp nd
  have Nf : News c.g c.L s.heap cf := fun p hp => N p (List.mem_append_left _ hp)
  refine H c.w c.mean c.mg c.mb dp un gd c.top c.outer c.A₀ c.base c.g c.L m s _ vs' cf _ ok.B Fm ok.X ok.T (ok.f hv0).2 (ok.f hv0).1 hd hu q d1 Nf nd'.1 hp ?_
  intro v v' led₁ cl' h' tk' hK hv F' D' N' nd₂ Kp Fs
  refine hR v v' _ _ hv ⟨sm.upd _ _, lk, m, cl' ++ cr, F', hlo, D'.app d2, fun p hp => ?_, ?_⟩ hK
  · rcases List.mem_append.mp hp with hp | hp
    · exact N' p hp
    · have z := N p (List.mem_append_right _ hp)
      exact ⟨Kp _ _ z.1 fun hm => nd'.2.2 _ hm _ (List.mem_map_of_mem (f := (·.1)) hp) rfl, z.2⟩
  · rw [List.map_append]
    refine List.nodup_append.mpr ⟨nd₂, nd'.2.1, fun a ha b hb e => ?_⟩
    subst e
    obtain ⟨p, hp, rfl⟩ := List.mem_map.mp ha
    obtain ⟨p2, hp2, e2⟩ := List.mem_map.mp hb
    rcases Fs p hp with z | z
    · exact nd'.2.2 _ z _ hb rfl
    · have := (N p2 (List.mem_append_right _ hp2)).1
      rw [e2, z] at this
      cases this
noncomputable def NewP (F : Fn) (lev : Nat) (fI C : Addr) (vs : List Value) (led1 : ALed) (P : Value → ALed → Prop) : Prop :=
  ∀ x, ∃ lf foot r Post, HSpec lf fI (.ref x :: vs) ((x, AO.inst C []) :: foot) Post ∧ Nat.ble (lf + 1) lev = true ∧ Split led1 foot r ∧ Post fun v led' => v = .none ∧ P (.ref x) (led' ++ r)
theorem newS {C fI : Addr} {vs' : List Value} (ok : Ok F lev c) (q : VsEq vs vs') (hm : makesIn (Mine.fr0.heap_1 c.w.params) C = true) (hi : findIn (Mine.fr0.heap_1 c.w.params) (.ref C) "__init__" = some (some (.ref fI))) (hf : isFn (Mine.fr0.heap_1 c.w.params) (.ref fI) = true)
    (H : NewP F lev fI C vs led P) {s : Shared} (S : St F c lo led s) {E : Value → Shared → Prop} : wpAny (model PG c.w) (c.A F) (call (.ref C) vs' []) (fun v' s' => ExP F c lo P v' s') E s := by
  obtain ⟨sm, lk, m, cl, Fm, hlo, D, N, nd⟩ := S
  refine call_cls Fm ok.X N hm hi hf fun x dx h' F' N' l1 l2 => ?_
  obtain ⟨lf, foot, r, Post, H, hl, Sp, hp⟩ := H x
  have hlv := Nat.le_of_ble_eq_true hl
  have S1 : St F c lo ((x, AO.inst C []) :: led) { s with heap := h' } := by
    refine ⟨by have := sm.upd h' s.toks; exact this, lk, m, _, F', hlo, DenL.cons (Den.inst (dx := dx) (n := 0) FsEq.nil (by simp)) D, N', ?_⟩
    rw [List.map_append]
    refine List.nodup_append.mpr ⟨?_, nd, fun a ha b hb e => ?_⟩
    · exact List.nodup_cons.mpr ⟨fun h => (Nat.ne_of_gt l2) (List.mem_singleton.mp h), by simp⟩
    · subst e
      obtain ⟨z, hz, rfl⟩ := List.mem_map.mp hb
      have h1 := l1 z hz
      rcases List.mem_cons.mp ha with e | ha
      · rw [e] at h1; exact Nat.lt_irrefl _ (Nat.lt_trans l2 h1)
      · rw [List.mem_singleton.mp ha] at h1; exact Nat.lt_irrefl _ h1
  have hd := ok.d
  have hu := ok.u
  have Sp' : Split ((x, AO.inst C []) :: led) ((x, AO.inst C []) :: foot) r := .cons .head Sp
  refine callC (P := fun v led' => v = .none ∧ P (.ref x) led') (dp := c.dp + 1) (un := c.un + 1) (gd := pushGuards (Code.builtin "type.__call__" ⟨.ref C :: vs', []⟩).guards c.gd) ok (by omega) H (by omega) (by omega) (.cons (.refl _) q) Sp' hp S1 fun v v' led' s' hv S' hP => ?_
  obtain ⟨rfl, hP⟩ := hP
  cases hv.none_inv
  exact ⟨rfl, .ref x, led', .refl _, S', hP⟩
theorem Ex.new {fn : Str} {C fI : Addr} (hs : (e :: es).all noStar = true) (hn : nsIn (Mine.fr0.heap_1 c.w.params) mainGlobals fn = some (some (.ref C))) (hk : keepIn (Mine.fr0.heap_1 c.w.params) (.ref C) = true) (hg : isGlob F fn = true)
    (hm : makesIn (Mine.fr0.heap_1 c.w.params) C = true) (hi : findIn (Mine.fr0.heap_1 c.w.params) (.ref C) "__init__" = some (some (.ref fI))) (hf : isFn (Mine.fr0.heap_1 c.w.params) (.ref fI) = true)
    (ha : Exs F lev c lo led (e :: es) fun vs led1 => NewP F lev fI C vs led1 P) : Ex F lev c lo led (.Call (.Name fn pp) (e :: es) [] pos) P := by
  intro ok s S E
  obtain ⟨g1, g2⟩ := Bool.and_eq_true_iff.mp hg
  have S0 := S
  obtain ⟨_, _, m, cl, Fm, _⟩ := S0
  refine Call_ (nm_K Fm ok.X (topRead_of ok.T) hn ?_ ok.k (of_decide_eq_true g1) (Bool.not_eq_true' _ ▸ g2)) eval_Call
  exact callWithX ok hk hs ha S fun vs vs' led1 s' q S' H => newS ok q hm hi hf H S'
theorem Ex.new0 {fn : Str} {C fI : Addr} (hn : nsIn (Mine.fr0.heap_1 c.w.params) mainGlobals fn = some (some (.ref C))) (hk : keepIn (Mine.fr0.heap_1 c.w.params) (.ref C) = true) (hg : isGlob F fn = true)
    (hm : makesIn (Mine.fr0.heap_1 c.w.params) C = true) (hi : findIn (Mine.fr0.heap_1 c.w.params) (.ref C) "__init__" = some (some (.ref fI))) (hf : isFn (Mine.fr0.heap_1 c.w.params) (.ref fI) = true)
    (H : NewP F lev fI C [] led P) : Ex F lev c lo led (.Call (.Name fn pp) [] [] pos) P := by
  intro ok s S E
  obtain ⟨g1, g2⟩ := Bool.and_eq_true_iff.mp hg
  have S0 := S
  obtain ⟨_, _, m, cl, Fm, _⟩ := S0
  refine Call_ (nm_K Fm ok.X (topRead_of ok.T) hn ?_ ok.k (of_decide_eq_true g1) (Bool.not_eq_true' _ ▸ g2)) eval_Call
  exact callWith_K0 (S.In ok) hk (newS ok .nil hm hi hf H S)
end
end
section
open PySem PySem.W PySem.Calls PyProof.Rows PySem.Spec PyProof.V
noncomputable abbrev iv (ns : List Int) : List Value := ns.map fun n => Value.int n 0
theorem vsEq_ints : ∀ {ns : List Int} {vs : List Value}, IntsAre vs ns → VsEq (iv ns) vs
  | _, _, .nil => .nil
  | _, _, .cons _ _ h => .cons (.int _ _ _) (vsEq_ints h)
theorem VsEq.set {a b : List Value} (h : VsEq a b) {v v' : Value} (q : VEq v v') : ∀ n, VsEq (a.set n v) (b.set n v') := by
  induction h with
  | nil => intro n; exact .nil
  | cons q1 r ih =>
    intro n
    cases n with
    | zero => exact .cons q r
    | succ n => exact .cons q1 (ih n)
theorem setL_of {v : Value} : ∀ {l : List Value} {n : Nat}, n < l.length → ki_setL l n v = some (l.set n v)
  | [], _, h => absurd h (Nat.not_lt_zero _)
  | _ :: _, 0, _ => rfl
  | x :: r, n + 1, h => by
    have := setL_of (v := v) (l := r) (n := n) (by simpa using h)
    show (match ki_setL r n v with | some q => some (x :: q) | none => none) = _
    rw [this]; rfl
section
variable {F : Fn} {lev : Nat} {c : Cx} {lo lo' : Lo} {led led' : ALed} {Φ : Fl} {rest body : List Stmt} {l r x y e o a b target : Expr} {pos p2 ap pp : Pos} {es : List Expr} {vs us : List Value} {v v1 v2 v3 : Value} {P : Value → ALed → Prop} {i j : Int} {t u : Tok} {p q : Bool} {op op2 : CmpOp}
theorem Ex.dict0 (k : ∀ d, P (.ref d) ((d, .idict []) :: led)) : Ex F lev c lo led (.Dict [] [] pos) P := fun ok s S E => by
  obtain ⟨sm, lk, m, cl, Fm, hlo, D, N, nd⟩ := S
  exact newDict_K Fm N (TopRead.nolimit (topRead_of ok.T)) fun d h' o F' N' l1 lo' _ _ hi _ => ⟨_, _, .refl _, ⟨by have := sm.upd h' s.toks; exact this, lk, m, _, F', hlo, .cons (.idict lo' hi) D, N', nodup_new (h := h') nd l1⟩, k d⟩
theorem St.turnD {d : Addr} {kvs : List (Int × Value)} {o' : AO} {s : Shared} (S : St F c lo led s) (R : Rep d (.idict kvs) o' led led') : ∃ pre post ob m, Sim c.s₀ s ∧ LoOk F lo ∧ Fr c.g c.L s.heap m ∧ (∀ x v, (x, some v) ∈ lo → ∃ v', m x = some v' ∧ VEq v v') ∧ News c.g c.L s.heap (pre ++ (d, ob) :: post) ∧ ob.IsDictOf (intKind PG c.w) kvs ∧ (d == sysModules) = false
    ∧ (∀ p ∈ pre, p.1 ≠ d) ∧ (∀ p ∈ post, p.1 ≠ d) ∧ ∀ ob h' tk, Den c.w d o' [(d, ob)] → Fr c.g c.L h' m → News c.g c.L h' (pre ++ (d, ob) :: post) → St F c lo led' { s with heap := h', toks := tk } := by
  obtain ⟨sm, lk, m, cl, Fm, hlo, D, N, nd⟩ := S
  obtain ⟨pre, k, post, rfl, dn, hk⟩ := R.den D
  cases dn with
  | @idict _ ob h1 h2 =>
    obtain ⟨n1, n2⟩ := nodup_mid nd
    refine ⟨pre, post, ob, m, sm, lk, Fm, hlo, N, h2, h1, n1, n2, fun ob h' tk d' F' N' => ⟨sm.upd _ _, lk, m, _, F', hlo, hk _ d', N', ?_⟩⟩
    rw [List.map_append] at nd ⊢
    exact nd
theorem X.setD {d z : Addr} {kvs : List (Int × Value)} (hv : Ev F lev c lo led e (.ref z)) (ho : Ev F lev c lo led o (.ref d)) (hx : Ev F lev c lo led x (.int i t)) (R : Rep d (.idict kvs) (.idict (stored kvs i (.ref z))) led led') (hz : Nat.ble kvs.length 1000 = true) (hc : noComp e = true)
    (k : X F lev c Φ lo led' rest) : X F lev c Φ lo led (.Assign [.Subscript o x p2] e pos :: rest) :=
  X.step fun ok s S E => by
    refine wpAny_Assign_Subscript (hv ok s S _ _ fun v0 s0 q0 S0 => ho ok s0 S0 _ _ fun v1 s1 q1 S1 => hx ok s1 S1 _ _ fun v2 s2 q2 S2 => ?_) (swaps_no hc _ _ _)
    cases q0.ref_inv
    cases q1.ref_inv
    obtain ⟨t2, rfl⟩ := q2.int_inv
    obtain ⟨pre, post, ob, m, sm, lk, Fm, hlo, N, hd, hmod, n1, n2, fin⟩ := S2.turnD R
    have hm := N (d, ob) (List.mem_append_right _ (.head _))
    refine wpAny_setItem_pairs (hsz := by rw [sizeLine_eq]; have := Nat.le_of_ble_eq_true hz; omega) (intKind_is PG c.w i t2) (Heap.dictOf_iff.mpr ⟨ob, hm.1, hd⟩) fun h' hmm hs => ?_
    obtain ⟨o', ho', hd'⟩ := Heap.dictOf_iff.mp hmm
    exact ⟨lo, led', fin o' h' _ (.idict hmod hd') (Fm.change hs hm.2.1 hm.2.2) (news_set N n1 n2 hs ho'), k⟩
theorem kvs_keys {kvs : List (Int × Value)} {vs : List Value} {w : World} (hl : vs.length = kvs.length) (hv : ∀ (j : Nat) (v : Value), vs[j]? = some v → ∃ k x, kvs[j]? = some (k, x) ∧ (intKind PG w).is k v = true) : IntsAre vs (kvs.map (·.1)) := by
  induction kvs generalizing vs with
  | nil => obtain rfl := List.length_eq_zero_iff.mp hl; exact .nil
  | cons kv kvs ih =>
    cases vs with
    | nil => cases hl
    | cons v vs =>
      obtain ⟨k, x, e, h⟩ := hv 0 v rfl
      obtain ⟨t, rfl⟩ := Flat.int_inv (kdl_flat_int h)
      obtain rfl := Option.some.inj e
      exact .cons _ _ (ih (by simpa using hl) fun j v e => hv (j + 1) v e)
theorem Ex.sorted {d : Addr} {kvs : List (Int × Value)} (hv : Ev F lev c lo led e (.ref d)) (hm : (d, AO.idict kvs) ∈ led) (hz : Nat.ble kvs.length 60 = true) (hp : (kvs.map (·.1)).Pairwise (· ≤ ·)) (hs : noStar e = true) (hg : isGlob F "sorted" = true) (hn : nsIn (Mine.fr0.heap_1 c.w.params) mainGlobals "sorted" = some Option.none)
    (k : ∀ D, P (.ref D) ((D, .list (iv (kvs.map (·.1)))) :: led)) : Ex F lev c lo led (.Call (.Name "sorted" pp) [e] [] pos) P := fun ok s S E => by
  refine callB ok hn rfl rfl hg (by simp) (.cons hs hv .nil) S fun vs' s1 q S1 => ?_
  obtain ⟨v', rfl, q1⟩ := q.one
  cases q1.ref_inv
  have hz' := Nat.le_of_ble_eq_true hz
  obtain ⟨hD, hmod⟩ := S1.dict hm
  obtain ⟨ep, hat⟩ := hD.dictAt
  obtain ⟨sm, lk, m, cl, Fm, hlo, Dn, N, nd⟩ := S1
  refine kdu_sorted (kdl_dict (knd := intKind PG c.w) (kvs := kvs) (ep := ep) hmod) rfl Fm N hat (by rw [sizeLine_eq]; omega) fun D h' tk vs F' N' l1 hl hvv => ?_
  have hI := kvs_keys hl hvv
  have hD0 := N' _ (.head _)
  refine wpAny_call_entry PyProof.Rows.slot_list_sort ⟨_, hD0.1, rfl⟩ PyProof.Rows.entry_list_sort (list_sort_tree (n := 0) (vs := vs) hD0.1 hI (by omega) fun out ns' hI' hp' hP' => ⟨.none, rfl, ?_⟩) (PyProof.Rows.args_list_sort _)
  obtain rfl := lks_uniq hp' hP' hp
  obtain ⟨e9, he9⟩ := sortedHeap_at (out := out) hD0.1
  have kp : ∀ b o, b ≠ D → h'.get? b = some o → (sortedHeap h' D vs out).get? b = some o := fun b o hb e => (sortedHeap_old hb (Heap.lt_size e)).trans e
  refine ⟨.ref D, (D, .list (iv (kvs.map (·.1)))) :: led, .refl _, ⟨sm.upd _ _, lk, m, (D, listOf out e9) :: cl, ⟨F'.ns.at' fun o e => kp _ _ hD0.2.1.symm e, fun b o e => kp b o (fun q => by rw [q, hD0.2.2] at e; cases e) (F'.keep b o e), F'.above⟩, hlo, ?_, ?_, nodup_new (h := h') nd l1⟩, k D⟩
  · have hq := vsEq_ints hI'
    have := DenL.cons (Den.list (w := c.w) (a := D) (n := e9) hq) Dn
    exact this
  · intro p hp
    rcases List.mem_cons.mp hp with rfl | hp
    · exact ⟨he9, hD0.2⟩
    · have z := N' p (.tail _ hp)
      exact ⟨kp _ _ (Nat.ne_of_lt (l1 p hp)) z.1, z.2⟩
theorem X.seti {d : Addr} (hv : Ev F lev c lo led e v) (ho : Ev F lev c lo led o (.ref d)) (hx : Ev F lev c lo led x (.int i t)) (R : Rep d (.list vs) (.list (vs.set i.toNat v)) led led') (h0 : 0 ≤ i) (h1 : i.toNat < vs.length) (hz : vs.length ≤ 1000000) (hc : noComp e = true)
    (k : X F lev c Φ lo led' rest) : X F lev c Φ lo led (.Assign [.Subscript o x p2] e pos :: rest) :=
  X.step fun ok s S E => by
    refine wpAny_Assign_Subscript (hv ok s S _ _ fun v0 s0 q0 S0 => ho ok s0 S0 _ _ fun v1 s1 q1 S1 => hx ok s1 S1 _ _ fun v2 s2 q2 S2 => ?_) (swaps_no hc _ _ _)
    cases q1.ref_inv
    obtain ⟨t2, rfl⟩ := q2.int_inv
    obtain ⟨pre, post, ws, n, m, sm, lk, Fm, hlo, N, qv, n1, n2', fin⟩ := S2.turn R
    have hl := qv.length
    exact ki_set Fm N h0 (by omega) (by rw [List.toList_toArray]; exact setL_of (by omega)) (upd_of n1 n2') fun h' F' N' => ⟨lo, led', fin _ h' _ (.list (qv.set q0 _)) F' N', k⟩
theorem Opn.rep {l1 : Addr} (h1 : (l1, AO.list [.int i t]) ∈ led) (h0 : 0 ≤ j) (hj : j ≤ 100000) (k : ∀ d, P (.ref d) ((d, .list (iv (List.replicate j.toNat i))) :: led)) : Opn F lev c lo led .Mult (.ref l1) (.int j u) P := by
  intro ok s v' u' S q1 q2 E
  cases q1.ref_inv
  obtain ⟨t2, rfl⟩ := q2.int_inv
  obtain ⟨ws, n, g1, g2⟩ := S.list h1
  obtain ⟨z, rfl, g3⟩ := g2.one
  obtain ⟨t3, rfl⟩ := g3.int_inv
  obtain ⟨sm, lk, m, cl, Fm, hlo, D, N, nd⟩ := S
  have e1 : ∀ (α : Type) (a : α) (n : Nat), (List.replicate n [a]).flatten = List.replicate n a := fun α a n => by
    induction n with
    | zero => rfl
    | succ n ih => rw [List.replicate_succ, List.flatten_cons, ih]; rfl
  refine KM.mul Fm N ⟨_, g1, rfl, n, rfl⟩ (.cons i t3 .nil) (by omega) (by omega) (by simp; omega) fun D' h' F' N' lt hI _ _ _ _ _ => ?_
  rw [e1, e1] at hI
  rw [e1] at N'
  exact ⟨_, _, .refl _, ⟨by have := sm.upd h' s.toks; exact this, lk, m, _, F', hlo, .cons (.list (vsEq_ints hI)) D, N', nodup_new (h := h') nd lt⟩, k D'⟩
theorem Ev.mul (h1 : Ev F lev c lo led l (.int i t)) (h2 : Ev F lev c lo led r (.int j u)) (h0 : -1000000 ≤ j) (h3 : j ≤ 1000000) : Ev F lev c lo led (.BinOp l .Mult r pos) (.int (i * j) 0) := by
  intro ok s S Q E h
  refine wpAny_BinOp (h1 ok s S _ _ fun v1 s1 q1 S1 => h2 ok s1 S1 _ _ fun v2 s2 q2 S2 => ?_)
  obtain ⟨t1, rfl⟩ := q1.int_inv
  obtain ⟨t2, rfl⟩ := q2.int_inv
  exact PySem.P.mul_int (h _ _ (.int _ _ _) (S2.toks _)) (PySem.IntMulOk.of_right (PySem.intBits_le_64 (by omega) (by omega)))
theorem Ev.mod (h1 : Ev F lev c lo led l (.int i t)) (h2 : Ev F lev c lo led r (.int j u)) (h0 : j ≠ 0) : Ev F lev c lo led (.BinOp l .Mod r pos) (.int (i.fmod j) 0) := by
  intro ok s S Q E h
  refine wpAny_BinOp (h1 ok s S _ _ fun v1 s1 q1 S1 => h2 ok s1 S1 _ _ fun v2 s2 q2 S2 => ?_)
  obtain ⟨t1, rfl⟩ := q1.int_inv
  obtain ⟨t2, rfl⟩ := q2.int_inv
  exact mod_int' h0 (h _ _ (.int _ _ _) (S2.toks _))
theorem Ev.fdiv (h1 : Ev F lev c lo led l (.int i t)) (h2 : Ev F lev c lo led r (.int j u)) (h0 : j ≠ 0) (h3 : j.natAbs < 1073741824) : Ev F lev c lo led (.BinOp l .FloorDiv r pos) (.int (i.fdiv j) 0) := by
  intro ok s S Q E h
  refine wpAny_BinOp (h1 ok s S _ _ fun v1 s1 q1 S1 => h2 ok s1 S1 _ _ fun v2 s2 q2 S2 => ?_)
  obtain ⟨t1, rfl⟩ := q1.int_inv
  obtain ⟨t2, rfl⟩ := q2.int_inv
  exact floordiv_int h0 (h _ _ (.int _ _ _) (S2.toks _)) (Or.inl (PyProof.noPylong_small h3))
theorem Ex.copy {d : Addr} (hv : Ev F lev c lo led e (.ref d)) (hm : (d, AO.list vs) ∈ led) (hz : vs.length ≤ 1000000) (hs : noStar e = true) (hg : isGlob F "list" = true) (hn : nsIn (Mine.fr0.heap_1 c.w.params) mainGlobals "list" = some Option.none)
    (k : ∀ D, P (.ref D) ((D, .list vs) :: led)) : Ex F lev c lo led (.Call (.Name "list" pp) [e] [] pos) P := fun ok s S E =>
  callTX (P' := fun vs led1 => vs = [.ref d] ∧ led1 = led) ok hn rfl rfl hg (by simp [hs]) (Exs.ev hs hv (Exs.nil ⟨rfl, rfl⟩)) S fun vs1 vs' led1 s1 q S1 ⟨e1, e2⟩ => by
    subst e1 e2
    obtain ⟨v', rfl, q1⟩ := q.one
    cases q1.ref_inv
    obtain ⟨ws, n, g1, g2⟩ := S1.list hm
    obtain ⟨sm, lk, m, cl, Fm, hlo, D, N, nd⟩ := S1
    refine call_list_seq d (.inl rfl) g1 rfl rfl (fun h' c' hk ho => ?_) (by rw [List.size_toArray, ← g2.length, sizeLine_eq]; omega)
    exact ⟨_, _, .refl _, ⟨by have := sm.upd h' s1.toks; exact this, lk, m, (s1.heap.objs.size, listOf ws.toArray c') :: cl, Fm.kept hk, hlo, .cons (.list g2) D, N.kept_cons Fm hk (Nat.le_refl _) ho, nodup_new (h := h') nd fun p hp => Heap.lt_size (N p hp).1⟩, k _⟩
noncomputable def TsE (F : Fn) (lev : Nat) (c : Cx) (lo : Lo) (led : ALed) (e : Expr) (P : Bool → ALed → Prop) : Prop :=
  Ok F lev c → ∀ s, St F c lo led s → ∀ E, wpAny (model PG c.w) (c.A F) (isTrue e (c.env F) (eval e (c.env F))) (fun b s' => ∃ led', St F c lo led' s' ∧ P b led') E s
theorem TsE.cmp {P : Bool → ALed → Prop} (h : Ex F lev c lo led l fun v1 led1 => Ex F lev c lo led1 r fun v2 led2 => ∃ p, Cmp F lev c lo led2 op v1 v2 p ∧ P p led2) (hm : behindInMarks op r = false) : TsE F lev c lo led (.Compare l [op] [r] pos) P := fun ok s S E =>
  wpAny_isTrue_Compare1 (wpAny_mono (h ok s S E) (fun a' s1 ⟨v1, led1, q1, S1, h1⟩ => wpAny_mono (h1 ok s1 S1 E) (fun b' s2 ⟨v2, led2, q2, S2, p, hc, k⟩ => hc ok s2 a' b' q1 q2 S2 _ _ fun s3 S3 => wpAny_truthy_bool ⟨led2, S3, k⟩) fun _ _ x => x) fun _ _ x => x) hm
theorem TsE.and {P : Bool → ALed → Prop} (h1 : Ts F lev c lo led x p) (h2 : p = true → TsE F lev c lo led (.BoolOp .And es pos) P) (h3 : p = false → P false led) : TsE F lev c lo led (.BoolOp .And (x :: es) pos) P := fun ok s S E =>
  isTrue_and (h1 ok s S _ _ fun s1 S1 => by
    cases p with
    | false => exact ⟨led, S1, h3 rfl⟩
    | true => exact h2 rfl ok s1 S1 E)
theorem TsE.andL {P : Bool → ALed → Prop} (h1 : TsE F lev c lo led x P) : TsE F lev c lo led (.BoolOp .And [x] pos) P := fun ok s S E =>
  isTrue_and (wpAny_mono (h1 ok s S E) (fun b s1 ⟨led1, S1, k⟩ => by
    cases b with
    | false => exact ⟨led1, S1, k⟩
    | true => exact isTrue_and_nil ⟨led1, S1, k⟩) fun _ _ x => x)
theorem X.iteE {t : Expr} {a b : List Stmt} (h : TsE F lev c lo led t fun p led1 => (p = true → X F lev c (Φ.then F lev c rest) lo led1 a) ∧ (p = false → X F lev c (Φ.then F lev c rest) lo led1 b)) : X F lev c Φ lo led (.If t a b pos :: rest) :=
  X.step fun ok s S E => wpAny_If (wpAny_mono (h ok s S E) (fun p s' ⟨led1, S', k1, k2⟩ => by
    cases p with
    | true => exact k1 rfl ok s' S' E
    | false => exact k2 rfl ok s' S' E) fun _ _ x => x)
end
end
section
open PySem PySem.W PySem.Calls PyProof.Rows PySem.Spec PyProof.V
theorem VsEq.rfl' : ∀ (vs : List Value), VsEq vs vs
  | [] => .nil
  | v :: r => .cons (.refl v) (VsEq.rfl' r)
inductive MkLoC : List Str → List Value → List Str → Lo → Prop
  | nil : MkLoC [] [] [] []
  | arg {n ns v vs os lo} : MkLoC ns vs os lo → MkLoC (n :: ns) (v :: vs) os ((n, some v) :: lo)
  | cel {n ns v vs os lo} : MkLoC ns vs os lo → MkLoC (n :: ns) (v :: vs) os lo
  | loc {o os lo} : MkLoC [] [] os lo → MkLoC [] [] (o :: os) ((o, none) :: lo)
theorem MkLoC.len {ns : List Str} {vs : List Value} {os : List Str} {lo : Lo} (h : MkLoC ns vs os lo) : vs.length = ns.length := by
  induction h with
  | nil => rfl
  | arg _ ih => simp [ih]
  | cel _ ih => simp [ih]
  | loc _ ih => rfl
theorem MkLoC.mem {ns : List Str} {vs : List Value} {os : List Str} {lo : Lo} (h : MkLoC ns vs os lo) : ∀ {vs' : List Value}, VsEq vs vs' → ∀ {x v}, (x, some v) ∈ lo → ∃ v', (x, v') ∈ ns.zip vs' ∧ VEq v v' := by
  induction h with
  | nil => intro _ _ _ _ m; cases m
  | arg _ ih =>
    intro vs' q x v m
    cases q with
    | cons q1 q2 =>
      cases m with
      | head => exact ⟨_, .head _, q1⟩
      | tail _ m =>
        obtain ⟨v', h1, h2⟩ := ih q2 m
        exact ⟨v', .tail _ h1, h2⟩
  | cel _ ih =>
    intro vs' q x v m
    cases q with
    | cons q1 q2 =>
      obtain ⟨v', h1, h2⟩ := ih q2 m
      exact ⟨v', .tail _ h1, h2⟩
  | loc _ ih =>
    intro vs' q x v m
    cases q
    cases m with
    | tail _ m => exact ih .nil m
inductive CellsAs (bs : List (Str × Value)) : List (Str × Addr) → ALed → Prop
  | nil : CellsAs bs [] []
  | val {x a v r l} : (x, v) ∈ bs → CellsAs bs r l → CellsAs bs ((x, a) :: r) ((a, .cell (some v)) :: l)
  | non {x a r l} : (bs.map (·.1)).contains x = false → CellsAs bs r l → CellsAs bs ((x, a) :: r) ((a, .cell none) :: l)
theorem zip_vsEq : ∀ {ns : List Str} {vs vs' : List Value}, VsEq vs vs' → ∀ {x : Str} {v : Value}, (x, v) ∈ ns.zip vs → ∃ v', (x, v') ∈ ns.zip vs' ∧ VEq v v'
  | [], _, _, _, _, _, h => by cases h
  | n :: ns, _, _, .nil, _, _, h => by cases h
  | n :: ns, _, _, .cons q r, x, v, h => by
    cases h with
    | head => exact ⟨_, .head _, q⟩
    | tail _ h => obtain ⟨v', h1, h2⟩ := zip_vsEq r h; exact ⟨v', .tail _ h1, h2⟩
theorem bindL_get {k : Str → Option NameKind} : ∀ {bs : List (Str × Value)} {m : Str → Option Value} {x : Str} {v : Value}, (bs.map (·.1)).Nodup → k x = some .local → ((x, v) ∈ bs ∨ (x ∉ bs.map (·.1) ∧ m x = some v)) → bindL k bs m x = some v
  | [], m, x, v, _, _, h => by
    rcases h with h | h
    · cases h
    · exact h.2
  | (n, u) :: r, m, x, v, nd, hk, h => by
    rw [List.map_cons, List.nodup_cons] at nd
    unfold bindL
    refine bindL_get nd.2 hk ?_
    rcases h with h | ⟨h1, h2⟩
    · cases h with
      | head => exact .inr ⟨nd.1, by rw [if_pos hk]; exact if_pos rfl⟩
      | tail _ h => exact .inl h
    · rw [List.map_cons, List.mem_cons, not_or] at h1
      refine .inr ⟨h1.2, ?_⟩
      split
      · show (if x = n then some u else m x) = some v
        rw [if_neg h1.1]; exact h2
      · exact h2
theorem bindC_get {k : Str → Option NameKind} : ∀ {bs : List (Str × Value)} {m : Str → Option Value} {x : Str} {v : Option Value}, (bs.map (·.1)).Nodup → k x ≠ some .local → ((∃ u, v = some u ∧ (x, u) ∈ bs) ∨ (x ∉ bs.map (·.1) ∧ m x = v)) → bindC k bs m x = v
  | [], m, x, v, _, _, h => by
    rcases h with ⟨_, _, h⟩ | h
    · cases h
    · exact h.2
  | (n, u) :: r, m, x, v, nd, hk, h => by
    rw [List.map_cons, List.nodup_cons] at nd
    unfold bindC
    refine bindC_get nd.2 hk ?_
    rcases h with ⟨z, e, h⟩ | ⟨h1, h2⟩
    · cases h with
      | head => exact .inr ⟨nd.1, by rw [if_neg hk, e]; exact if_pos rfl⟩
      | tail _ h => exact .inl ⟨z, e, h⟩
    · rw [List.map_cons, List.mem_cons, not_or] at h1
      refine .inr ⟨h1.2, ?_⟩
      split
      · exact h2
      · show (if x = n then some u else m x) = v
        rw [if_neg h1.1]; exact h2
theorem cells_den {w : World} {k : Str → Option NameKind} {bs bs' : List (Str × Value)} (nd : (bs'.map (·.1)).Nodup) (hb : ∀ x v, (x, v) ∈ bs → ∃ v', (x, v') ∈ bs' ∧ VEq v v') (hn : bs.map (·.1) = bs'.map (·.1)) :
    ∀ {cs : List (Str × Addr)} {cl : ALed} {cells : Led}, CellsAs bs cs cl → CellsAre (bindC k bs' fun _ => none) cs cells → (∀ p ∈ cs, k p.1 ≠ some .local) → DenL w cl cells ∧ cells.map (·.1) = cs.map (·.2) := by
  intro cs cl cells H
  induction H generalizing cells with
  | nil => intro C _; cases C; exact ⟨.nil, rfl⟩
  | @val x a v r l hv _ ih =>
    intro C hk
    cases C with
    | @cons _ _ o _ cells h C =>
      obtain ⟨d, e⟩ := ih C fun p hp => hk p (.tail _ hp)
      obtain ⟨v', h1, h2⟩ := hb x v hv
      rw [bindC_get (v := some v') nd (hk _ (.head _)) (.inl ⟨v', rfl, h1⟩)] at h
      have := DenL.cons (Den.cell (w := w) (a := a) h h2) d
      exact ⟨this, by rw [List.map_cons, List.map_cons, e]⟩
  | @non x a r l hv _ ih =>
    intro C hk
    cases C with
    | @cons _ _ o _ cells h C =>
      obtain ⟨d, e⟩ := ih C fun p hp => hk p (.tail _ hp)
      rw [bindC_get (v := none) nd (hk _ (.head _)) (.inr ⟨(by rw [← hn]; intro hm; rw [List.contains_iff_mem.mpr hm] at hv; cases hv), rfl⟩)] at h
      have := DenL.cons (Den.cellN (w := w) (a := a) h) d
      exact ⟨this, by rw [List.map_cons, List.map_cons, e]⟩
theorem HSpec.introC {lev : Nat} {f : Addr} {vs : List Value} {foot : ALed} {Post : (Value → ALed → Prop) → Prop} {name qual : Str} {params : Arguments} {body : List Stmt} {scope : Scope} {dV kV doc pm cdv ct oc : Value} {an od : Option Addr} {osl : Array (Option Value)} (ns os : List Str) (ds : List Value) (cf : Nat → List (Str × Addr)) (cled : Nat → ALed) {lo : Lo}
    (ho : ∀ w : World, (Mine.fr0.heap_1 w.params).lookup f = some ⟨oc, od, .func (fnOf name qual params body scope dV kV doc pm an cdv ct), osl⟩) (hcd : ∀ w : World, codeIn (Mine.fr0.heap_1 w.params) cdv qual = true)
    (hb : ∀ (w : World) (s : Shared) (vs' : List Value), (Mine.fr0.heap_1 w.params).In s.heap → vs'.length + ds.length = ns.length → BindsTo s (fnOf name qual params body scope dV kV doc pm an cdv ct) ⟨vs', []⟩ (ns.zip (vs' ++ ds))) (ml : MkLoC ns (vs ++ ds) os lo)
    (hn : (lo.all fun x => isLoc ⟨qual ++ ".<locals>.", scope, some f, cdv⟩ x.1) = true) (hn2 : (lo.map (·.1)).Nodup) (hn3 : ns.Nodup) (hn4 : (ns.all fun y => scope.names.lookup y == some .local || scope.names.lookup y == some .cell) = true)
    (hcs : ∀ n, cellsFrom n scope.names [] = cf n) (hca : ∀ n, ((cf n).map (·.2)).Nodup ∧ ((cf n).map (·.1)).Nodup ∧ (∀ p ∈ cf n, n ≤ p.2) ∧ (∀ p ∈ cf n, scope.names.lookup p.1 ≠ some .local)) (hcl : ∀ n, CellsAs (ns.zip (vs ++ ds)) (cf n) (cled n))
    (hco : scope.isCoroutine = false) (hgen : scope.isGenerator = false) (hk : scope.kind = .function)
    (h : ∀ (c : Cx) (K : Value → ALed → Prop) (n : Nat), c.cl = cf n → Post K → X ⟨qual ++ ".<locals>.", scope, some f, cdv⟩ lev c (Fl.fn K) lo (cled n ++ foot) body) : HSpec (lev + 1) f vs foot Post := by
  intro w mean mg mb dp un gd env outer A₀ base h₀ L m s R vs' cl K BB F X0 T hke hkf hd hu q D N nd hP hret
  have hlen : vs'.length + ds.length = ns.length := by rw [← q.length, ← ml.len, List.length_append]
  have hzl : (vs' ++ ds).length = ns.length := by rw [List.length_append]; exact hlen
  have hzk := zip_keys hzl
  have q' : VsEq (vs ++ ds) (vs' ++ ds) := q.app (VsEq.rfl' ds)
  have hzk2 := zip_keys (ns := ns) (vs := vs ++ ds) ml.len
  refine code_defCQ (ns.zip (vs' ++ ds)) BB F X0 N T rfl hkf hke (ho w) (hcd w) (Nat.lt_of_le_of_lt (Nat.le_add_right _ _) hd) (hb w s vs' (X0.keeps F.keep) hlen) ?_ (by rw [hcs]; exact (hca _).2.1) (fun g L' h₁ tk cells FG F' N' CA B' X' T' hlt hg1 hg2 => ?_) hco hgen hk
  · rw [List.all_eq_true] at hn4 ⊢
    intro y hy
    exact hn4 y.1 (by rw [← hzk]; exact List.mem_map_of_mem (f := (·.1)) hy)
  · rw [hcs] at CA
    have ndb : ((ns.zip (vs' ++ ds)).map (·.1)).Nodup := by rw [hzk]; exact hn3
    obtain ⟨dc, ec⟩ := cells_den (w := w) (k := (envOfC qual scope L' f cdv).kindOf) ndb (fun x v hm => zip_vsEq q' hm) (by rw [hzk, hzk2]) (hcl (L' + 1)) CA (fun p hp => (hca _).2.2.2 p hp)
    let c : Cx := ⟨w, g, L', cf (L' + 1), { handled := none, depth := dp, frames := some (env :: outer), guards := gd, units := un }, base, env :: outer, mean, mg, mb, dp + 1, un + 3, gd, s, some L', envOfC qual scope L' f cdv⟩
    have ok : Ok ⟨qual ++ ".<locals>.", scope, some f, cdv⟩ lev c := ⟨X', T', B', hk, by show dp + 1 + lev < _; omega, by show un + 3 + 20 * lev < _; omega, fun _ => ⟨rfl, hk⟩⟩
    have hall := List.all_eq_true.mp hn
    have henv : envOfC qual scope L' f cdv = c.env ⟨qual ++ ".<locals>.", scope, some f, cdv⟩ := by
      show ({ scope := scope, locals := L', globals := mainGlobals, cells := cellsFrom (L' + 1) scope.names [], qual := _, func := _, code := _, frame := _, builtins := _ } : Env) = _
      rw [hcs]
    have hX := h c K (L' + 1) rfl hP ok { s with heap := h₁, toks := tk } ⟨Sim.of s _ _, ⟨hn2, fun x hx => ?_⟩, _, cells ++ cl, F', fun x v hm => ?_, dc.app D, N', ?_⟩ (fun e s' => wpAny (model PG w) (({ handled := none, depth := dp, frames := some (env :: outer), guards := gd, units := un } : Around).deeper (envOfC qual scope L' f cdv)) (leaving (envOfC qual scope L' f cdv) e) (fun _ s'' => R (.error e) s'') (fun e' s'' => R (.error e') s'') s')
    · rw [← henv] at hX
      refine wpAny_mono hX (fun fl s' hs => ?_) fun _ _ y => y
      have fin : ∀ {v v' : Value} {lo' : Lo} {led' : ALed}, K v led' → VEq v v' → St ⟨qual ++ ".<locals>.", scope, some f, cdv⟩ c lo' led' s' → LeaveK h₀ L m g R v' s' := by
        intro v v' lo' led' hK hv ⟨sm, lk, m', cl', F₂, hlo, D₂, N₂, nd₂⟩
        refine leaveK_ F₂ N₂ fun kF kN => ?_
        have e : s' = { s with heap := s'.heap, toks := s'.toks } := sm
        rw [e]
        exact hret v v' led' cl' s'.heap s'.toks hK hv kF D₂ kN nd₂ (fun b o e n => F₂.keep b o (hg1 b o e n)) fun p hp => hg2 _ (N₂ p hp).2.2
      cases fl with
      | next => obtain ⟨lo', led', S', k⟩ := hs; exact fin k (.refl _) S'
      | brk => obtain ⟨_, _, _, k⟩ := hs; exact k.elim
      | cont => obtain ⟨_, _, _, k⟩ := hs; exact k.elim
      | ret v' => obtain ⟨v, lo', led', hv, S', k⟩ := hs; exact fin k hv S'
    · obtain ⟨p, hp, rfl⟩ := List.mem_map.mp hx
      exact hall p hp
    · obtain ⟨v', h1, h2⟩ := ml.mem q' hm
      have := hall _ hm
      exact ⟨v', bindL_get ndb (of_decide_eq_true (Bool.and_eq_true_iff.mp this).1) (.inl h1), h2⟩
    · rw [List.map_append, ec]
      refine List.nodup_append.mpr ⟨(hca _).1, nd, fun a ha b hb e => ?_⟩
      subst e
      obtain ⟨p, hp, rfl⟩ := List.mem_map.mp ha
      obtain ⟨z, hz, e⟩ := List.mem_map.mp hb
      have h1 := hlt z hz
      have h2 := (hca (L' + 1)).2.2.1 p hp
      rw [e] at h1
      exact Nat.lt_irrefl _ (Nat.lt_trans h1 h2)
section
variable {F : Fn} {lev : Nat} {c : Cx} {lo lo' : Lo} {led led' : ALed} {Φ : Fl} {rest body : List Stmt} {l r x y e o a b target : Expr} {pos p2 ap pp : Pos} {es : List Expr} {vs us : List Value} {v v1 v2 v3 : Value} {P : Value → ALed → Prop} {i j : Int} {t u : Tok} {p q : Bool} {op op2 : CmpOp}
noncomputable def isCell (F : Fn) (x : Str) : Bool := decide (F.cs.names.lookup x = some .cell) && !(x == ("__debug__" : Str))
theorem St.cell {d : Addr} {s : Shared} (S : St F c lo led s) (hm : (d, AO.cell (some v)) ∈ led) : ∃ L news o v', News c.g L s.heap news ∧ (d, o) ∈ news ∧ o.data = .cell (some v') ∧ VEq v v' := by
  obtain ⟨sm, lk, m, cl, Fm, hlo, D, N, nd⟩ := S
  obtain ⟨k, dn, hl⟩ := D.get hm
  cases dn with
  | cell h1 h2 => exact ⟨c.L, cl, _, _, N, hl _ (.head _), h1, h2⟩
theorem Ev.cell {n : Str} {d : Addr} (hc : c.cl.lookup n = some d) (hm : (d, AO.cell (some v)) ∈ led) (hk : isCell F n = true) : Ev F lev c lo led (.Name n pos) v := by
  intro ok s S Q E h
  obtain ⟨g1, g2⟩ := Bool.and_eq_true_iff.mp hk
  obtain ⟨L, news, ob, v', N, h1, h2, h3⟩ := S.cell hm
  exact nm_C N hc h1 h2 (h _ _ h3 S) ok.k (of_decide_eq_true g1) (Bool.not_eq_true' _ ▸ g2)
theorem X.assignC {n : Str} {d : Addr} {ov : Option Value} (hc : c.cl.lookup n = some d) (hk : isCell F n = true) (hn : noComp e = true) (h : Ex F lev c lo led e fun v led1 => ∃ led', Rep d (.cell ov) (.cell (some v)) led1 led' ∧ X F lev c Φ lo led' rest) : X F lev c Φ lo led (.Assign [.Name n p2] e pos :: rest) :=
  X.step fun ok s S E => wpAny_Assign_Name (wpAny_mono (h ok s S E) (fun v' s' ⟨v, led1, q, S', led', R, k⟩ => by
    obtain ⟨g1, g2⟩ := Bool.and_eq_true_iff.mp hk
    obtain ⟨sm, lk, m, cl, Fm, hlo, D, N, nd⟩ := S'
    obtain ⟨pre, kk, post, rfl, dn, hk'⟩ := R.den D
    have key : ∀ (ob : Obj) (v₀ : Option Value), kk = [(d, ob)] → ob.data = .cell v₀ → wpAny (model PG c.w) (c.A F) (storeName (c.env F) n v') (fun _ => (Fl.post F c (Φ.then F lev c rest)) .next) E s' := by
      rintro ob v₀ rfl hd
      obtain ⟨n1, n2⟩ := nodup_mid nd
      have hmem := N (d, ob) (List.mem_append_right _ (.head _))
      refine wpAny_storeName_cell ok.k (of_decide_eq_true g1) hc ⟨ob, hmem.1, hd⟩ fun h' hv hs => ?_
      obtain ⟨o', ho', hd'⟩ := hv
      refine ⟨lo, led', ⟨by have := sm.upd h' s'.toks; exact this, lk, m, _, Fm.change hs hmem.2.1 hmem.2.2, hlo, hk' _ (.cell hd' q), news_set N n1 n2 hs ho', ?_⟩, k⟩
      rw [List.map_append] at nd ⊢
      exact nd
    cases dn with
    | cell h1 h2 => exact key _ _ rfl h1
    | cellN h1 => exact key _ _ rfl h1) fun _ _ x => x) (swaps_no hn _ _ _)
end
end
section
open PySem PySem.W PySem.Calls PyProof.Rows PySem.Spec PyProof.V PyProof
noncomputable def relF (scope : Scope) (F : Fn) : Scope := { scope with names := scope.names.map fun (n, k) => if (k == .free && F.cs.kind == .function && F.cs.names.lookup n == some .cell) then (n, .cell) else (n, k) }
noncomputable abbrev cmF (scope : Scope) (F : Fn) : Fn := ⟨F.cn, relF scope F, none, F.cd⟩
noncomputable abbrev cmC (cl : List (Str × Addr)) (C : Addr) (c : Cx) : Cx := { c with L := C, cl := cl }
section
variable {F : Fn} {lev : Nat} {c : Cx} {lo lo' : Lo} {led led' : ALed} {Φ : Fl} {rest body : List Stmt} {l r y e o a b target elt iter : Expr} {x : Str} {pos p2 ap pp : Pos} {es : List Expr} {vs us : List Value} {v v1 v2 v3 : Value} {P : Value → ALed → Prop} {i j : Int} {t u : Tok} {p q : Bool} {op op2 : CmpOp} {scope : Scope} {cl : List (Str × Addr)}
noncomputable def CmTurn (F : Fn) (c : Cx) (scope : Scope) (cl : List (Str × Addr)) (elt : Expr) (x : Str) (J : List Value → List Value → ALed → Prop) (keep : Led) : Prop :=
  ∀ v r ys led L oL I oI C D oD, J (v :: r) ys led → Ex (cmF scope F) 0 (cmC cl C c) [(x, some v)] ((L, .obj oL) :: (I, .obj oI) :: (D, .obj oD) :: (asO keep ++ led)) elt fun y led3 => ∃ led4, Split led3 ((L, AO.obj oL) :: (I, .obj oI) :: (D, .obj oD) :: asO keep) led4 ∧ J r (ys ++ [y]) led4
noncomputable def CmTurnC (F : Fn) (lev : Nat) (c : Cx) (scope : Scope) (cl : List (Str × Addr)) (elt : Expr) (x : Str) (J : List Value → List Value → ALed → Prop) (keep : Led) : Prop :=
  ∀ v r ys led oL I oI C D oD, J (v :: r) ys led → Ok F lev c → (∃ mL, LCg.NsObj oL mL) → c.g.objs.size ≤ c.L → Ex (cmF scope F) 0 (cmC cl C c) [(x, some v)] ((c.L, .obj oL) :: (I, .obj oI) :: (D, .obj oD) :: (asO keep ++ led)) elt fun y led3 => ∃ led4, Split led3 ((c.L, AO.obj oL) :: (I, .obj oI) :: (D, .obj oD) :: asO keep) led4 ∧ J r (ys ++ [y]) led4
theorem CmTurn.C {J : List Value → List Value → ALed → Prop} {keep : Led} (h : CmTurn F c scope cl elt x J keep) : CmTurnC F lev c scope cl elt x J keep := fun v r ys led oL I oI C D oD hJ _ _ _ => h v r ys led c.L oL I oI C D oD hJ
inductive CmAt (F : Fn) (lev : Nat) (c : Cx) (lo : Lo) (elt : Expr) (x : Str) (scope : Scope) (cl : List (Str × Addr)) (P : Value → ALed → Prop) (it : Value) (s₂ : Shared) : Prop
  | mk (I : Addr) (fp : List Addr) (n : Nat) (Pt : Nat → Value → Prop) (Stt : Nat → Heap → Prop) (vs : List Value) (keep cl₀ : Led) (led : ALed) (m : Str → Option Value) (J : List Value → List Value → ALed → Prop)
    (eI : it = .ref I) (W : Walks PG c.w (c.A F) I fp [I] n Pt Stt) (en : n = vs.length) (hsz : vs.length ≤ 100000) (hP : ∀ i v, Pt i v → ∃ a, vs[i]? = some a ∧ VEq a v) (hfp : ∀ b ∈ fp, b = I ∨ ∃ o, (b, o) ∈ keep) (hobj : ∀ i h, Stt i h → ∃ o, h.get? I = some o) (hst : Stt 0 s₂.heap)
    (sm : Sim c.s₀ s₂) (lk : LoOk F lo) (hlo : ∀ x v, (x, some v) ∈ lo → ∃ v', m x = some v' ∧ VEq v v') (Fm : Fr c.g c.L s₂.heap m) (N : News c.g c.L s₂.heap (keep ++ cl₀)) (Dn : DenL c.w led cl₀) (nd : ((keep ++ cl₀).map (·.1)).Nodup) (hI : ∀ p ∈ keep ++ cl₀, p.1 ≠ I) (LI : c.L ≠ I) (I₀ : c.g.get? I = none) (hIlt : I < s₂.heap.objs.size)
    (hJ : J vs [] led) (turn : CmTurnC F lev c scope cl elt x J keep) (fin : ∀ D ys led, J [] ys led → ∃ ledf, P (.ref D) ledf ∧ ∀ C oC s_e, St F c lo ((C, .obj oC) :: (D, .list ys) :: (asO keep ++ led)) s_e → St F c lo ((C, .obj oC) :: ledf) s_e)
inductive CmLp (c : Cx) (m : Str → Option Value) (s₂ : Shared) (vs : List Value) (Stt : Nat → Heap → Prop) (C I D : Addr) (keep : Led) (J : List Value → List Value → ALed → Prop) (k : Nat) (s' : Shared) : Prop
  | mk (h' : Heap) (tk i : Nat) (ys ysC : List Value) (m' : Str → Option Value) (nn : Led) (led : ALed) (es : s' = { s₂ with heap := h', toks := tk }) (hi : i ≤ vs.length) (ek : k = vs.length + 1 - i) (hyq : VsEq ys ysC) (hyl : ysC.length = i) (hst' : Stt i h') (F' : Fr c.g c.L h' m) (hn' : h'.Ns C m') (N' : News c.g c.L h' ((D, LCg.lst ysC) :: (keep ++ nn)))
    (nd' : (C :: I :: D :: (keep ++ nn).map (·.1)).Nodup) (D' : DenL c.w led nn) (hJ' : J (vs.drop i) ys led)
theorem St.gone {C : Addr} {oC : Obj} {s : Shared} (S : St F c lo ((C, .obj oC) :: led) s) : s.heap.get? C = some oC ∧ ∀ h', Heap.SameBut C s.heap h' → St F c lo led { s with heap := h' } := by
  obtain ⟨sm, lk, m, cl, Fm, hlo, D, N, nd⟩ := S
  cases D with
  | @cons _ _ l _ l' d D =>
    cases d
    have z := N (C, oC) (.head _)
    refine ⟨z.1, fun h' hs => ⟨by have := sm.upd h' s.toks; exact this, lk, m, l', Fm.change hs z.2.1 z.2.2, hlo, D, fun p hp => ?_, (List.nodup_cons.mp nd).2⟩⟩
    have y := N p (.tail _ hp)
    exact ⟨hs.extBut _ _ (fun q => (List.nodup_cons.mp nd).1 (q ▸ List.mem_map_of_mem (f := (·.1)) hp)) y.1, y.2⟩
theorem comp_run {px : Pos} {p0 : Pos} {use : Option (Value → Sem Unit)} {Q E : Value → Shared → Prop} (ok : Ok F lev c) (hclos : closureFor scope (c.env F) = pure cl) (hcell : (scope.names.all fun y => !(y.2 == .cell)) = true) (hkind : scope.kind = .function) (hnames : (scope.names.all fun y => !(y.2 == .local) || scope.names.lookup y.1 == some .local) = true) (hx : scope.names.lookup x = some .local) (hx2 : isLoc (cmF scope F) x = true)
    {s : Shared} (h : wpAny (model PG c.w) (c.A F) (eval iter (c.env F)) (fun xv s₁ => wpAny (model PG c.w) (c.A F) (pyIter xv) (CmAt F lev c lo elt x scope cl P) E s₁) E s)
    (hend : ∀ C D oC m ledf s_e, P (.ref D) ledf → St F c lo ((C, .obj oC) :: ledf) s_e → LCg.NsObj oC m → compPost (model PG c.w) (c.A F) E use Q (.ref D) C (.ok .next) s_e)
    (hs : ∀ x, foldedSetIterable iter (c.env F) x = pure x) : wpAny (model PG c.w) (c.A F) (comprehension (.ListComp elt [⟨.Name x px, iter, [], 0⟩] scope pos) scope (c.env F) p0 (newList []) false (eval iter (c.env F)) use) Q E s := by
  have hcell' : ∀ y ∈ scope.names, y.2 ≠ .cell := fun y hy e => by
    have := List.all_eq_true.mp hcell y hy
    rw [e] at this; cases this
  have hnames' : ∀ y ∈ scope.names, y.2 = .local → scope.names.lookup y.1 = some .local := fun y hy e => by
    have := List.all_eq_true.mp hnames y hy
    rw [e] at this
    exact eq_of_beq this
  refine wpAny_comprehension_free (use := use) rfl hs hclos hkind hnames' (wpAny_mono h (fun xv s₁ h₁ => wpAny_mono h₁ (fun it s₂ h₂ => ?_) fun _ _ e => e) fun _ _ e => e)
  obtain ⟨I, fp, n, Pt, Stt, vs, keep, cl₀, led, m, J, rfl, W, rfl, hsz, hP, hfp, hobj, hst, sm, lk, hlo, Fm, N, Dn, nd, hI, LI, I₀, hIlt, hJ, turn, fin⟩ := h₂
  refine wpAny_newObj_type (wpAny_newFunctionEnv hcell' (by intro y hy; simp at hy) (fun h₁ hns₁ hsb₁ => ?_) hkind)
  dsimp only at hns₁ hsb₁ ⊢
  generalize hH2 : s₂.heap.push { cls := .type "list", dict := none, data := .seq ([] : List Value).toArray } = H2 at hns₁ hsb₁ ⊢
  have z2 : H2.objs.size = s₂.heap.objs.size + 1 := by rw [← hH2, Heap.size_push]
  have lt2 : ∀ b : Addr, b < s₂.heap.objs.size → b ≠ H2.objs.size := fun b hb => z2 ▸ Nat.ne_of_lt (Nat.lt_succ_of_lt hb)
  have dC : s₂.heap.objs.size ≠ H2.objs.size := by rw [z2]; exact Nat.ne_of_lt (Nat.lt_succ_self _)
  have up : ∀ b o, s₂.heap.get? b = some o → h₁.get? b = some o := fun b o e => hsb₁.extBut b o (lt2 b (Heap.lt_size e)) (Heap.get?_push_of_some _ (hH2 ▸ Heap.get?_push_of_some _ e))
  have gD : h₁.get? s₂.heap.objs.size = some (LCg.lst []) := hsb₁.extBut _ _ dC (Heap.get?_push_of_some _ (hH2 ▸ Heap.get?_push_size _ rfl))
  have fresh₀ : ∀ a, s₂.heap.objs.size ≤ a → c.g.get? a = none := fun a ha => by
    cases e : c.g.get? a with
    | none => rfl
    | some o' => exact absurd (Heap.lt_size (Fm.keep a o' e)) (Nat.not_lt.mpr ha)
  have iD : I ≠ s₂.heap.objs.size := Nat.ne_of_lt hIlt
  have iC : I ≠ H2.objs.size := lt2 I hIlt
  have LD : c.L ≠ s₂.heap.objs.size := Nat.ne_of_lt Fm.ns.lt
  have LC : c.L ≠ H2.objs.size := lt2 _ Fm.ns.lt
  have C₀ : c.g.get? H2.objs.size = none := fresh₀ _ (by rw [z2]; exact Nat.le_succ _)
  have D₀ : c.g.get? s₂.heap.objs.size = none := fresh₀ _ (Nat.le_refl _)
  have gL : c.g.get? c.L = none := Heap.get?_none_of_le Fm.above
  have gC : c.g.objs.size ≤ H2.objs.size := by
    rw [z2]
    exact Nat.le_trans Fm.above (Nat.le_trans (Nat.le_of_lt Fm.ns.lt) (Nat.le_succ _))
  have old : ∀ p ∈ keep ++ cl₀, p.1 < s₂.heap.objs.size := fun p hp => Heap.lt_size (N p hp).1
  have hst₁ : Stt 0 h₁ := W.frame _ _ _ hst fun b hb o e => up b o e
  have hIm : ∀ b : Addr, b ≠ I → b ∉ ([I] : List Addr) := fun b hb q => hb (List.mem_singleton.mp q)
  generalize hD : s₂.heap.objs.size = D at *
  generalize hC : H2.objs.size = C at *
  have loop : ∀ s₃ : Shared, s₃ = { s₂ with heap := h₁, toks := s₂.toks + ([] : List (Str × Value)).length } →
      codeAny (model PG c.w) (c.A F) (.compLoop (.ListComp elt [⟨.Name x px, iter, [], 0⟩] scope pos) 0 (.ref I) (.ref D) (compEnvC scope cl C (c.env F))) (compPost (model PG c.w) (c.A F) E use Q (.ref D) C) s₃ := by
    rintro s₃ rfl
    refine codeAny_compLoop_tests
      (CmLp c m s₂ vs Stt C I D keep J)
      ?_ (vs.length + 1) ⟨h₁, _, 0, [], [], _, cl₀, led, rfl, Nat.zero_le _, rfl, .nil, rfl, hst₁, Fm.keeps up, hns₁, fun p hp => ?_, ?_, Dn, hJ⟩
    · rintro k s' ⟨h', tk, i, ys, ysC, m', nn, led, rfl, hi, rfl, hyq, hyl, hst', F', hn', N', nd', D', hJ'⟩
      have nd1 := List.nodup_cons.mp nd'
      have nd2 := List.nodup_cons.mp nd1.2
      have nd3 := List.nodup_cons.mp nd2.2
      have nI : ∀ p ∈ (D, LCg.lst ysC) :: (keep ++ nn), p.1 ≠ I := fun p hp e => by
        rcases List.mem_cons.mp hp with rfl | hp
        · exact nd2.1 (e ▸ .head _)
        · exact nd2.1 (e ▸ .tail _ (List.mem_map_of_mem hp))
      by_cases hlt : i < vs.length
      · refine W.item i _ _ _ hlt hst' fun v h₂ tk₂ hv hst₂ hk₂ => ?_
        obtain ⟨av, hav, hq⟩ := hP i v hv
        have hdr : vs.drop i = av :: vs.drop (i + 1) := by rw [List.drop_eq_getElem_cons hlt]; congr 1; exact Option.some.inj ((List.getElem?_eq_getElem hlt).symm.trans hav)
        rw [hdr] at hJ'
        obtain ⟨oI, heI⟩ := hobj _ _ hst₂
        have F₂ := LCg.fr_but F' hk₂ LI I₀
        obtain ⟨oL, hoL, nsL⟩ := LCg.ns_obj F₂.ns
        have N₂ : News c.g c.L h₂ ((D, LCg.lst ysC) :: (keep ++ nn)) := LCg.news_but N' hk₂ nI
        have ok' : Ok (cmF scope F) 0 (cmC cl C c) := ⟨ok.X, ok.T, ok.B, hkind, Nat.lt_of_le_of_lt (Nat.le_add_right _ _) ok.d, Nat.lt_of_le_of_lt (Nat.le_add_right _ _) ok.u, fun h => absurd h (Nat.lt_irrefl _)⟩
        have FC : Fr c.g C h₂ m' := ⟨hn'.at' fun o e => hk₂ _ o (hIm _ iC.symm) e, F₂.keep, gC⟩
        have S₂ : St (cmF scope F) (cmC cl C c) [(x, none)] ((c.L, .obj oL) :: (I, .obj oI) :: (D, .obj (LCg.lst ysC)) :: (asO keep ++ led)) { s₂ with heap := h₂, toks := tk₂ } := by
          refine ⟨sm.upd _ _, ⟨by simp, fun y hy => by rw [show y = x by simpa using hy]; exact hx2⟩, m', (c.L, oL) :: (I, oI) :: (D, LCg.lst ysC) :: (keep ++ nn), FC, fun y v hm => by simp at hm, ?_, fun p hp => ?_, ?_⟩
          · have := DenL.cons (Den.obj (w := c.w) (a := c.L) (o := oL)) (DenL.cons (Den.obj (w := c.w) (a := I) (o := oI)) (DenL.cons (Den.obj (w := c.w) (a := D) (o := LCg.lst ysC)) ((den_asO c.w keep).app D')))
            exact this
          · rcases List.mem_cons.mp hp with rfl | hp
            · exact ⟨hoL, LC, gL⟩
            · rcases List.mem_cons.mp hp with rfl | hp
              · exact ⟨heI, iC, I₀⟩
              · refine ⟨(N₂ p hp).1, fun e => ?_, (N₂ p hp).2.2⟩
                rcases List.mem_cons.mp hp with rfl | hp
                · exact dC e
                · have e' : p.1 = C := e
                  exact nd1.1 (e' ▸ .tail _ (.tail _ (List.mem_map_of_mem hp)))
          · refine List.nodup_cons.mpr ⟨fun hm => ?_, nd1.2⟩
            rcases List.mem_cons.mp hm with e | hm
            · exact LI e
            · rcases List.mem_cons.mp hm with e | hm
              · exact LD e
              · obtain ⟨p, hp, e⟩ := List.mem_map.mp hm
                exact (N' p (.tail _ hp)).2.1 e
        refine Asg.name (F := cmF scope F) (c := cmC cl C c) (lo' := [(x, some av)]) .head ok' _ v S₂ hq _ _ fun s₃ S₃ => ?_
        refine wpAny_tests_nil ?_
        simp only [if_true]
        refine wpAny_mono (turn av _ ys led oL I oI C D (LCg.lst ysC) hJ' ok ⟨_, nsL⟩ Fm.above ok' s₃ S₃ _) (fun yv s₄ h₄ => ?_) fun _ _ e => e
        obtain ⟨yy, led3, hyy, S4, led4, Sp, J4⟩ := h₄
        obtain ⟨sm4, -, m4, cl4, Fm4, -, D4, N4, nd4⟩ := S4.split Sp
        obtain ⟨q1, q2, rfl, d1, d2⟩ := D4.unapp
        have d1' : DenL c.w (asO ((c.L, oL) :: (I, oI) :: (D, LCg.lst ysC) :: keep)) q1 := d1
        obtain rfl := den_asO_inv d1'
        have N4' : News c.g C s₄.heap ((c.L, oL) :: (I, oI) :: (D, LCg.lst ysC) :: (keep ++ q2)) := N4
        have nd4' : (((c.L, oL) :: (I, oI) :: (D, LCg.lst ysC) :: (keep ++ q2)).map (·.1)).Nodup := nd4
        have e4 : s₄ = { s₂ with heap := s₄.heap, toks := s₄.toks } := by
          have a1 : s₄ = { c.s₀ with heap := s₄.heap, toks := s₄.toks } := sm4
          have a2 : s₂ = { c.s₀ with heap := s₂.heap, toks := s₂.toks } := sm
          rw [a2]; exact a1
        have zL := (N4' _ (.head _)).1
        have zI := (N4' _ (.tail _ (.head _))).1
        have zD := (N4' _ (.tail _ (.tail _ (.head _)))).1
        have ndL := List.nodup_cons.mp nd4'
        have ndI := List.nodup_cons.mp ndL.2
        have ndD := List.nodup_cons.mp ndI.2
        have F4 : Fr c.g c.L s₄.heap m := ⟨nsL.ns zL, Fm4.keep, Fm.above⟩
        refine append_at (hsz := by show ysC.toArray.size ≤ sizeLine; rw [List.size_toArray, hyl, sizeLine_eq]; omega) zD fun h₅ hs₅ hD₅ => ?_
        refine ⟨vs.length + 1 - (i + 1), by omega, h₅, s₄.toks, i + 1, ys ++ [yy], ysC ++ [yv], m4, q2, led4, by rw [e4], hlt, rfl, hyq.app (.cons hyy .nil), by rw [List.length_append, List.length_singleton, hyl], ?_, F4.change hs₅ LD.symm D₀, Fm4.ns.sameBut hs₅ dC.symm, fun p hp => ?_, ?_, d2, J4⟩
        · refine W.frame _ _ _ hst₂ fun b hb ob e => ?_
          rcases hfp b hb with e9 | ⟨ob2, hk⟩
          · subst e9
            rw [heI] at e
            cases e
            exact hs₅.extBut _ _ iD zI
          · have e1 := (N₂ _ (.tail _ (List.mem_append_left _ hk))).1
            rw [e] at e1
            cases e1
            exact hs₅.extBut _ _ (fun q => ndD.1 (q ▸ List.mem_map_of_mem (f := (·.1)) (List.mem_append_left _ hk))) (N4' _ (.tail _ (.tail _ (.tail _ (List.mem_append_left _ hk))))).1
        · rcases List.mem_cons.mp hp with rfl | hp
          · exact ⟨hD₅.trans (congrArg some (LCg.lst_snoc ysC yv)), LD.symm, D₀⟩
          · have z := N4' p (.tail _ (.tail _ (.tail _ hp)))
            exact ⟨hs₅.extBut _ _ (fun q => ndD.1 (q ▸ List.mem_map_of_mem (f := (·.1)) hp)) z.1, fun q => ndL.1 (q ▸ .tail _ (.tail _ (List.mem_map_of_mem (f := (·.1)) hp))), z.2.2⟩
        · refine List.nodup_cons.mpr ⟨fun hm => ?_, ndL.2⟩
          rcases List.mem_cons.mp hm with e | hm
          · exact iC e.symm
          · rcases List.mem_cons.mp hm with e | hm
            · exact dC e.symm
            · obtain ⟨p, hp, e⟩ := List.mem_map.mp hm
              exact (N4' p (.tail _ (.tail _ (.tail _ hp)))).2.1 e
      · obtain rfl : i = vs.length := by omega
        rw [List.drop_length] at hJ'
        refine W.done _ _ _ hst' fun h₂ tk₂ hk₂ => ?_
        have F₂ := LCg.fr_but F' hk₂ LI I₀
        have hn2 := hn'.at' fun o e => hk₂ _ o (hIm _ iC.symm) e
        obtain ⟨oC, hoC, nsC⟩ := LCg.ns_obj hn2
        obtain ⟨ledf, hPf, view⟩ := fin D ys led hJ'
        refine hend C D oC m' ledf _ hPf (view C oC _ ⟨sm.upd _ _, lk, m, (C, oC) :: (D, LCg.lst ysC) :: (keep ++ nn), F₂, hlo, ?_, fun p hp => ?_, ?_⟩) nsC
        · have := DenL.cons (Den.obj (w := c.w) (a := C) (o := oC)) (DenL.cons (Den.list (w := c.w) (a := D) (n := ysC.length) hyq) ((den_asO c.w keep).app D'))
          exact this
        · rcases List.mem_cons.mp hp with rfl | hp
          · exact ⟨hoC, LC.symm, C₀⟩
          · exact ⟨hk₂ _ _ (hIm _ (nI p hp)) (N' p hp).1, (N' p hp).2⟩
        · exact List.nodup_cons.mpr ⟨fun hm => nd1.1 (.tail _ hm), nd2.2⟩
    · rcases List.mem_cons.mp hp with rfl | hp
      · exact ⟨gD, LD.symm, D₀⟩
      · exact ⟨up _ _ (N p hp).1, (N p hp).2⟩
    · refine List.nodup_cons.mpr ⟨fun hm => ?_, List.nodup_cons.mpr ⟨fun hm => ?_, List.nodup_cons.mpr ⟨fun hm => ?_, nd⟩⟩⟩
      · rcases List.mem_cons.mp hm with e | hm
        · exact iC e.symm
        · rcases List.mem_cons.mp hm with e | hm
          · exact dC e.symm
          · obtain ⟨p, hp, e⟩ := List.mem_map.mp hm
            exact lt2 _ (old p hp) e
      · rcases List.mem_cons.mp hm with e | hm
        · exact iD e
        · obtain ⟨p, hp, e⟩ := List.mem_map.mp hm
          exact hI p hp e
      · obtain ⟨p, hp, e⟩ := List.mem_map.mp hm
        have := old p hp
        rw [e] at this
        exact Nat.lt_irrefl _ this
  exact codeAny_compStart_list (loop _ rfl) (W.self 0 _ _ _ hst₁ (loop _ rfl))
theorem Ex.comp {px : Pos} (hclos : closureFor scope (c.env F) = pure cl) (hcell : (scope.names.all fun y => !(y.2 == .cell)) = true) (hkind : scope.kind = .function) (hnames : (scope.names.all fun y => !(y.2 == .local) || scope.names.lookup y.1 == some .local) = true) (hx : scope.names.lookup x = some .local) (hx2 : isLoc (cmF scope F) x = true)
    (hs : ∀ x, foldedSetIterable iter (c.env F) x = pure x) (h : Ok F lev c → ∀ s, St F c lo led s → ∀ E, wpAny (model PG c.w) (c.A F) (eval iter (c.env F)) (fun xv s₁ => wpAny (model PG c.w) (c.A F) (pyIter xv) (CmAt F lev c lo elt x scope cl P) E s₁) E s) :
    Ex F lev c lo led (.ListComp elt [⟨.Name x px, iter, [], 0⟩] scope pos) P := fun ok s S E => by
  rw [eval_ListComp]
  exact comp_run ok hclos hcell hkind hnames hx hx2 (h ok s S E) (fun C D oC m ledf s_e hP S' ns => ⟨m, ns.ns S'.gone.1, fun h' hs => ⟨.ref D, ledf, .refl _, S'.gone.2 h' hs, hP⟩⟩) hs

theorem X.comp {px py : Pos} {y : Str} (hsw : swapsWith (.ListComp elt [⟨.Name x px, iter, [], 0⟩] scope pos) (some (.Name y py)) p2.line (c.env F) = pure true) (hclos : closureFor scope (c.env F) = pure cl) (hcell : (scope.names.all fun y => !(y.2 == .cell)) = true) (hkind : scope.kind = .function) (hnames : (scope.names.all fun y => !(y.2 == .local) || scope.names.lookup y.1 == some .local) = true) (hx : scope.names.lookup x = some .local) (hx2 : isLoc (cmF scope F) x = true)
    (hs : ∀ x, foldedSetIterable iter (c.env F) x = pure x) (h : Ok F lev c → ∀ s, St F c lo led s → ∀ E, wpAny (model PG c.w) (c.A F) (eval iter (c.env F)) (fun xv s₁ => wpAny (model PG c.w) (c.A F) (pyIter xv) (CmAt F lev c lo elt x scope cl fun v led1 => ∃ lo', SetL y v lo lo' ∧ X F lev c Φ lo' led1 rest) E s₁) E s) :
    X F lev c Φ lo led (.Assign [.Name y py] (.ListComp elt [⟨.Name x px, iter, [], 0⟩] scope pos) p2 :: rest) :=
  X.step fun ok s S E => by
    rw [exec_Assign_Name_used _ _ _ _ hsw]
    refine wpAny_bind (wpAny_standAt (wpAny_bind ?_))
    show wpAny _ _ (do let _ ← comprehension (.ListComp elt [⟨.Name x px, iter, [], 0⟩] scope pos) scope (c.env F) _ (newList []) false (eval iter (c.env F)) (some (PySem.assign (PySem.Expr.Name y py) (c.env F)))) _ _ s
    refine wpAny_bind (wpAny_mono (comp_run (Q := fun _ s' => Fl.post F c (Φ.then F lev c rest) .next s') ok hclos hcell hkind hnames hx hx2 (h ok s S E) (fun C D oC m ledf s_e hP S' ns => ?_) hs) (fun _ s' hq => wpAny_pure (wpAny_pure hq)) fun _ _ e => e)
    obtain ⟨lo', hl, hX⟩ := hP
    exact Asg.name hl ok s_e _ S' (.refl _) _ _ fun s2 S2 => ⟨m, ns.ns S2.gone.1, fun h' hs => ⟨lo', ledf, S2.gone.2 h' hs, hX⟩⟩
end
end
section
open PySem PySem.W PySem.Calls PyProof.Rows PySem.Spec PyProof.V PyProof
section
variable {F : Fn} {lev : Nat} {c : Cx} {lo lo' : Lo} {led led' led1 led2 : ALed} {Φ : Fl} {rest body : List Stmt} {l r y e o a b target elt iter : Expr} {x : Str} {pos p2 ap pp : Pos} {es : List Expr} {vs us : List Value} {v v1 v2 v3 : Value} {P : Value → ALed → Prop} {i j : Int} {t u : Tok} {p q : Bool} {op op2 : CmpOp} {scope : Scope} {cl : List (Str × Addr)}
theorem cm_list {E : Value → Shared → Prop} {ax : Addr} (J : List Value → List Value → ALed → Prop) (R : Rem (ax, .list vs) led1 led2) (hz : vs.length ≤ 100000) (hJ : J vs [] led2) (turn : ∀ o, CmTurnC F lev c scope cl elt x J [(ax, o)]) (fin : ∀ D ys led, J [] ys led → P (.ref D) ((D, .list ys) :: (ax, .list vs) :: led))
    {s₁ : Shared} (S : St F c lo led1 s₁) : wpAny (model PG c.w) (c.A F) (pyIter (.ref ax)) (CmAt F lev c lo elt x scope cl P) E s₁ := by
  obtain ⟨sm, lk, m, cl1, Fm, hlo, D, N, nd⟩ := S
  obtain ⟨k, cr, d1, d2, hp⟩ := R.den D
  cases d1 with
  | @list _ vs' n qv =>
    have N2 := news_perm N hp
    have nd2 := (hp.map (·.1)).nodup_iff.mp nd
    have hax := N2 (ax, listOf vs'.toArray n) (.head _)
    have hl : s₁.heap.IsList ax vs'.toArray := ⟨_, hax.1, rfl, n, rfl⟩
    have hne : ax ≠ s₁.heap.objs.size := Nat.ne_of_lt (Heap.lt_size hax.1)
    have hlen := qv.length
    refine wpAny_pyIter_list hl ?_
    have W := Walks.list (prog := PG) (w := c.w) (A := c.A F) rfl s₁.heap.objs.size ax hne vs'.toArray
    rw [show vs'.toArray.size = vs.length by rw [List.size_toArray, hlen]] at W
    refine ⟨s₁.heap.objs.size, [s₁.heap.objs.size, ax], vs.length, _, _, vs, [(ax, listOf vs'.toArray n)], cr, led2, m, J, rfl, W, rfl, hz, ?_, ?_, ?_, ⟨⟨_, Heap.get?_push_size _ rfl, rfl, rfl⟩, hl.at fun o e => Heap.get?_push_of_some _ e⟩,
      by have := sm.upd (s₁.heap.push { cls := .type "list_iterator", data := .fields #[.ref ax, .int 0 0] }) s₁.toks; exact this, lk, hlo, Fm.push _, fun p hp => ⟨Heap.get?_push_of_some _ (N2 p hp).1, (N2 p hp).2⟩, d2, nd2, fun p hp e => ?_, Nat.ne_of_lt Fm.ns.lt, ?_, ?_, hJ, turn _, fun D ys led h => ⟨_, fin D ys led h, fun C oC s_e S => ?_⟩⟩
    · intro i v h
      have h' : vs'[i]? = some v := by simpa using h
      have hi : i < vs.length := by rw [hlen]; exact (List.getElem?_eq_some_iff.mp h').1
      obtain ⟨v', g1, g2⟩ := qv.get (List.getElem?_eq_getElem hi)
      rw [h'] at g1
      cases g1
      exact ⟨_, List.getElem?_eq_getElem hi, g2⟩
    · intro b hb
      rcases List.mem_cons.mp hb with e | hb
      · exact .inl e
      · rw [List.mem_singleton.mp hb]; exact .inr ⟨_, .head _⟩
    · intro i h st
      obtain ⟨o, ho, _⟩ := st.1
      exact ⟨o, ho⟩
    · have := Heap.lt_size (N2 p hp).1
      rw [e] at this
      exact Nat.lt_irrefl _ this
    · exact next_is_new Fm
    · show s₁.heap.objs.size < (s₁.heap.push _).objs.size
      rw [Heap.size_push]; exact Nat.lt_succ_self _
    · obtain ⟨sm, lk, m, cl1, Fm, hlo, D, N, nd⟩ := S
      cases D with
      | cons dC D =>
        cases D with
        | cons dD D =>
          cases D with
          | cons dA D =>
            cases dA
            exact ⟨sm, lk, m, _, Fm, hlo, .cons dC (.cons dD (.cons (.list qv) D)), N, nd⟩
theorem cm_range (J : List Value → List Value → ALed → Prop) (hs : noStar e = true) (hn : nsIn (Mine.fr0.heap_1 c.w.params) mainGlobals "range" = some Option.none) (hg : isGlob F "range" = true) (ok : Ok F lev c) {s : Shared} {E : Value → Shared → Prop} (S : St F c lo led s)
    (he : Ex F lev c lo led e fun v led1 => ∃ (n : Nat) (t : Tok), v = .int n t ∧ n ≤ 1000 ∧ J (rangeVs n) [] led1) (turn : CmTurnC F lev c scope cl elt x J []) (fin : ∀ D ys led, J [] ys led → P (.ref D) ((D, .list ys) :: led)) :
    wpAny (model PG c.w) (c.A F) (eval (.Call (.Name "range" pp) [e] [] pos) (c.env F)) (fun xv s₁ => wpAny (model PG c.w) (c.A F) (pyIter xv) (CmAt F lev c lo elt x scope cl P) E s₁) E s :=
  callTX (P' := fun vs led1 => ∃ (n : Nat) (t : Tok), vs = [.int n t] ∧ n ≤ 1000 ∧ J (rangeVs n) [] led1) ok hn rfl rfl hg (by simp [hs]) (Exs.cons hs (he.mono fun v l ⟨n, t, e1, e2, e3⟩ => Exs.nil ⟨n, t, by rw [e1], e2, e3⟩)) S fun vs vs' led1 s1 q S1 ⟨n, t, e1, hz, hJ⟩ => by
    subst e1
    obtain ⟨v', rfl, q1⟩ := q.one
    obtain ⟨t', rfl⟩ := q1.int_inv
    refine call_range_1 ?_
    have hr : IsRange (s1.heap.push { cls := .type "range", data := .fields #[.int 0 s1.toks, .int n t', .int 1 (s1.toks + 1)] }) s1.heap.objs.size 0 n 1 s1.toks t' (s1.toks + 1) := IsRange.new _ _ _ _ _ _ _
    have hrn : Builtin.Range.rangeSize 0 (n : Int) 1 = (n : Int) := by rw [rangeSize_one]; split <;> omega
    obtain ⟨sm, lk, m, cl1, Fm, hlo, D, N, nd⟩ := S1.grow (h' := s1.heap.push { cls := .type "range", data := .fields #[.int 0 s1.toks, .int n t', .int 1 (s1.toks + 1)] }) (fun b o e => Heap.get?_push_of_some _ e) (s1.toks + 1 + 1)
    generalize hs2 : ({ s1 with heap := s1.heap.push { cls := .type "range", data := .fields #[.int 0 s1.toks, .int n t', .int 1 (s1.toks + 1)] }, toks := s1.toks + 1 + 1 } : Shared) = s2 at *
    have hr2 : IsRange s2.heap s1.heap.objs.size 0 n 1 s1.toks t' (s1.toks + 1) := by rw [← hs2]; exact hr
    refine wpAny_pyIter_range hr2 (small_one (by omega) (by omega) (by omega) (by omega)) ?_
    have W : Walks PG c.w (c.A F) s2.heap.objs.size [s2.heap.objs.size] [s2.heap.objs.size] n (fun i v => i < n ∧ ∃ t, v = .int (0 + (i : Nat) * 1) t) (fun i h => IsRangeIter h s2.heap.objs.size (0 + (i : Nat) * 1) ((n : Int) - (i : Nat)) 1) := (Walks.range rfl _ 0 1 n).bound
    refine ⟨s2.heap.objs.size, [s2.heap.objs.size], n, _, _, rangeVs n, [], cl1, led1, m, J, rfl, W, by simp [rangeVs], by simp [rangeVs]; omega, ?_, fun b hb => .inl (List.mem_singleton.mp hb), fun i h st => ⟨_, st⟩, ?_,
      by have := sm.upd (s2.heap.push { cls := .type "range_iterator", data := .fields #[rawInt 0, rawInt (Builtin.Range.rangeSize 0 (n : Int) 1), rawInt 1] }) s2.toks; exact this, lk, hlo, Fm.push _, fun p hp => ⟨Heap.get?_push_of_some _ (N p hp).1, (N p hp).2⟩, D, nd, fun p hp e => ?_, Nat.ne_of_lt Fm.ns.lt, next_is_new Fm, ?_, hJ, turn, fun D ys led h => ⟨_, fin D ys led h, fun C oC s_e S => S⟩⟩
    · rintro i v ⟨hi, t, rfl⟩
      exact ⟨.int i 0, by unfold rangeVs; rw [List.getElem?_map, List.getElem?_range hi]; rfl, by rw [Int.mul_one, Int.zero_add]; exact .int _ _ _⟩
    · show IsRangeIter _ _ _ _ _
      rw [hrn]; simpa using Heap.get?_push_size _ rfl
    · have := Heap.lt_size (N p hp).1
      rw [e] at this
      exact Nat.lt_irrefl _ this
    · show s2.heap.objs.size < (s2.heap.push _).objs.size
      rw [Heap.size_push]; exact Nat.lt_succ_self _
theorem callIn {f C : Addr} {oL : Obj} {mL : Str → Option Value} {vs' : List Value} {foot r : ALed} {Post : (Value → ALed → Prop) → Prop} {lf : Nat} {lo2 : Lo} (ok : Ok F lev c) (H : HSpec lf f vs foot Post) (hl : okLev lf lev = true) (q : VsEq vs vs') (Sp : Split led foot r) (nsL : LCg.NsObj oL mL) (hg : c.g.objs.size ≤ c.L) (hp : Post fun v led' => P v ((c.L, .obj oL) :: (led' ++ r)))
    {s : Shared} (S : St (cmF scope F) (cmC cl C c) lo2 ((c.L, .obj oL) :: led) s) {E : Value → Shared → Prop} : wpAny (model PG c.w) (c.A F) (call (.ref f) vs' []) (fun v' s' => ExP (cmF scope F) (cmC cl C c) lo2 P v' s') E s := by
  have S := S.split (Split.cons (p := (c.L, .obj oL)) Rem.head Sp)
  obtain ⟨sm, lk, m, cl1, Fm, hlo, D, N, nd⟩ := S
  cases D with
  | @cons _ _ k _ l' d D =>
    cases d
    obtain ⟨cf, cr, rfl, d1, d2⟩ := D.unapp
    have N : News c.g C s.heap ((c.L, oL) :: (cf ++ cr)) := N
    have nd : (((c.L, oL) :: (cf ++ cr)).map (·.1)).Nodup := nd
    have zL := N (c.L, oL) (.head _)
    have nd1 := List.nodup_cons.mp nd
    have nd0 : ((cf ++ cr).map (·.1)).Nodup := nd1.2
    rw [List.map_append] at nd0
    have nd' := List.nodup_append.mp nd0
    have hlv := okLev_le hl
    have neL : ∀ p ∈ cf ++ cr, p.1 ≠ c.L := fun p hp e => nd1.1 (e ▸ List.mem_map_of_mem (f := (·.1)) hp)
    have Nf : News c.g c.L s.heap cf := fun p hp => ⟨(N p (.tail _ (List.mem_append_left _ hp))).1, neL p (List.mem_append_left _ hp), (N p (.tail _ (List.mem_append_left _ hp))).2.2⟩
    refine wpAny_call (H c.w c.mean c.mg c.mb c.dp c.un c.gd c.top c.outer c.A₀ c.base c.g c.L mL s _ vs' cf _ ok.B ⟨nsL.ns zL.1, Fm.keep, hg⟩ ok.X ok.T (ok.f (okLev_pos hl)).2 (ok.f (okLev_pos hl)).1 (Nat.lt_of_le_of_lt (Nat.add_le_add_left hlv _) ok.d) (Nat.lt_of_le_of_lt (Nat.add_le_add_left (Nat.mul_le_mul_left _ hlv) _) ok.u) q d1 Nf nd'.1 hp ?_)
    intro v v' led₁ cl' h' tk' hK hv F' D' N' nd₂ Kp Fs
    obtain ⟨oC, hoC, nsC⟩ := LCg.ns_obj Fm.ns
    have nC : C ∉ cf.map (·.1) := fun hm => by
      obtain ⟨p, hp, e⟩ := List.mem_map.mp hm
      exact (N p (.tail _ (List.mem_append_left _ hp))).2.1 e
    have nL : c.L ∉ cf.map (·.1) := fun hm => by
      obtain ⟨p, hp, e⟩ := List.mem_map.mp hm
      exact neL p (List.mem_append_left _ hp) e
    refine ⟨v, _, hv, ⟨sm.upd _ _, lk, m, (c.L, oL) :: (cl' ++ cr), ⟨nsC.ns (Kp _ _ hoC nC), F'.keep, Fm.above⟩, hlo, .cons (a := c.L) (o := .obj oL) (l := [(c.L, oL)]) .obj (D'.app d2), fun p hp => ?_, ?_⟩, hK⟩
    · rcases List.mem_cons.mp hp with rfl | hp
      · exact ⟨Kp _ _ zL.1 nL, zL.2⟩
      · rcases List.mem_append.mp hp with hp | hp
        · refine ⟨(N' p hp).1, fun e => ?_, (N' p hp).2.2⟩
          rcases Fs p hp with z | z
          · exact nC ((show p.1 = C from e) ▸ z)
          · have e' : p.1 = C := e
            rw [e', hoC] at z; cases z
        · have z := N p (.tail _ (List.mem_append_right _ hp))
          exact ⟨Kp _ _ z.1 fun hm => nd'.2.2 _ hm _ (List.mem_map_of_mem (f := (·.1)) hp) rfl, z.2⟩
    · rw [List.map_cons, List.map_append]
      refine List.nodup_cons.mpr ⟨fun hm => ?_, List.nodup_append.mpr ⟨nd₂, nd'.2.1, fun a ha b hb e => ?_⟩⟩
      · rcases List.mem_append.mp hm with hm | hm
        · obtain ⟨p, hp, e⟩ := List.mem_map.mp hm
          exact (N' p hp).2.1 e
        · exact nd1.1 (show c.L ∈ (cf ++ cr).map (·.1) by rw [List.map_append]; exact List.mem_append_right _ hm)
      · subst e
        obtain ⟨p, hp, rfl⟩ := List.mem_map.mp ha
        obtain ⟨p2, hp2, e2⟩ := List.mem_map.mp hb
        rcases Fs p hp with z | z
        · exact nd'.2.2 _ z _ hb rfl
        · have := (N p2 (.tail _ (List.mem_append_right _ hp2))).1
          rw [e2, z] at this
          cases this
theorem Ex.callIn {fn : Str} {C : Addr} {oL : Obj} {args : List Expr} {f : Addr} {lf : Nat} {foot r : ALed} {Post : (Value → ALed → Prop) → Prop} {lo2 : Lo} (ok : Ok F lev c) (nsL : ∃ mL, LCg.NsObj oL mL) (hgL : c.g.objs.size ≤ c.L) (H : HSpec lf f vs foot Post) (ha : Evs (cmF scope F) 0 (cmC cl C c) lo2 ((c.L, .obj oL) :: led) args vs) (Sp : Split led foot r)
    (hn : nsIn (Mine.fr0.heap_1 c.w.params) mainGlobals fn = some (some (.ref f))) (hk : keepIn (Mine.fr0.heap_1 c.w.params) (.ref f) = true) (hg : isGlob (cmF scope F) fn = true) (hl : okLev lf lev = true) (hp : Post fun v led' => P v ((c.L, .obj oL) :: (led' ++ r))) : Ex (cmF scope F) 0 (cmC cl C c) lo2 ((c.L, .obj oL) :: led) (.Call (.Name fn p2) args [] pos) P := by
  intro ok' s S E
  obtain ⟨g1, g2⟩ := Bool.and_eq_true_iff.mp hg
  obtain ⟨mL, nsL⟩ := nsL
  have S0 := S
  obtain ⟨_, _, m, cl, Fm, _⟩ := S0
  refine Call_ (nm_K Fm ok'.X (topRead_of ok'.T) hn ?_ ok'.k (of_decide_eq_true g1) (Bool.not_eq_true' _ ▸ g2)) eval_Call
  exact callWithS ok' hk ha S fun vs' s' q S' => Mine.callIn ok H hl q Sp nsL hgL hp S'
end
end
section
open PySem PySem.W PySem.Calls PyProof.Rows PySem.Spec PyProof.V
section
variable {F : Fn} {lev : Nat} {c : Cx} {lo lo' : Lo} {led led' led1 led2 : ALed} {Φ : Fl} {rest body : List Stmt} {l r y e o a b target elt iter x : Expr} {pos p p2 ap pp : Pos} {es : List Expr} {vs us : List Value} {v v1 v2 v3 : Value} {P : Value → ALed → Prop} {i j : Int} {t u : Tok}
inductive SetSl (F : Fn) (lev : Nat) (c : Cx) (lo : Lo) (led1 : ALed) (o x y : Expr) (v : Value) (k : ALed → Prop) : Prop
  | intro (l l2 : Addr) (vs us : List Value) (i j : Int) (t u : Tok) (led' : ALed) (hv : v = .ref l2) (ho : Ev F lev c lo led1 o (.ref l)) (hx : Ev F lev c lo led1 x (.int i t)) (hy : Ev F lev c lo led1 y (.int j u)) (h2 : (l2, AO.list us) ∈ led1) (R : Rep l (.list vs) (.list (vs.take i.toNat ++ us ++ vs.drop j.toNat)) led1 led') (h0 : 0 ≤ i) (h1 : i ≤ j) (hj : j ≤ vs.length) (hz : vs.length + us.length ≤ 1000000) (hk : k led') : SetSl F lev c lo led1 o x y v k
theorem SetSl.mk {l l2 : Addr} {k : ALed → Prop} (ho : Ev F lev c lo led1 o (.ref l)) (hx : Ev F lev c lo led1 x (.int i t)) (hy : Ev F lev c lo led1 y (.int j u)) (h2 : (l2, AO.list us) ∈ led1) (R : Rep l (.list vs) (.list (vs.take i.toNat ++ us ++ vs.drop j.toNat)) led1 led') (h0 : 0 ≤ i) (h1 : i ≤ j) (hj : j ≤ vs.length) (hz : vs.length + us.length ≤ 1000000) (hk : k led') : SetSl F lev c lo led1 o x y (.ref l2) k :=
  ⟨l, l2, vs, us, i, j, t, u, led', rfl, ho, hx, hy, h2, R, h0, h1, hj, hz, hk⟩
theorem X.setsliceE (hc : noComp e = true) (h : Ex F lev c lo led e fun v led1 => SetSl F lev c lo led1 o x y v fun led' => X F lev c Φ lo led' rest) : X F lev c Φ lo led (.Assign [.Subscript o (.Slice (some x) (some y) none p) p2] e pos :: rest) :=
  X.step fun ok s S E => by
    refine wpAny_Assign_Subscript (wpAny_mono (h ok s S E) (fun v0 s0 ⟨v, led1, q0, S0, l, l2, vs, us, i, j, t, u, led', hv, ho, hx, hy, h2, R, h0, h1, hj, hz, k⟩ => ho ok s0 S0 _ _ fun v1 s1 q1 S1 => ?_) fun _ _ x => x) (swaps_no hc _ _ _)
    refine wpAny_Slice (evalPart_some_step (hx ok s1 S1 _ _ fun v2 s2 q2 S2 => evalPart_some_step (hy ok s2 S2 _ _ fun v3 s3 q3 S3 => evalPart_none_step ?_)))
    subst hv
    cases q0.ref_inv
    cases q1.ref_inv
    obtain ⟨t2, rfl⟩ := q2.int_inv
    obtain ⟨t3, rfl⟩ := q3.int_inv
    obtain ⟨zs, n2, g3, g4⟩ := S3.list h2
    obtain ⟨pre, post, ws, n, m, sm, lk, Fm, hlo, N, qv, n1, n2', fin⟩ := S3.turn R
    have hmem := N (l, listOf ws.toArray n) (List.mem_append_right _ (.head _))
    have hlen := qv.length
    obtain ⟨ia, rfl⟩ := Int.eq_ofNat_of_zero_le h0
    obtain ⟨ja, rfl⟩ := Int.eq_ofNat_of_zero_le (Int.le_trans h0 h1)
    have hij : ia ≤ ja := Int.ofNat_le.mp h1
    have hjl : ja ≤ vs.length := Int.ofNat_le.mp hj
    have hb : sliceBounds (some (ia : Int)) (some (ja : Int)) none ws.toArray.size = ((ia : Int), (ja : Int), 1) := by
      rw [slice_bounds, List.size_toArray, ← hlen, Nat.min_eq_left (Nat.le_trans hij hjl), Nat.min_eq_left hjl]
    have hr : s3.heap.IsList l2 zs.toArray := ⟨_, g3, rfl, n2, rfl⟩
    refine setItem_slice (s := { s3 with heap := s3.heap.push { cls := .type "slice", data := .fields #[.int ia t2, .int ja t3, .none] } }) (Heap.get?_push_of_some _ hmem.1) (hr.push _) (Heap.IsSliceOf.new ..) (.int _ _) (.int _ _) hb hij (by rw [List.size_toArray, List.size_toArray, ← hlen, ← g4.length, sizeLine_eq]; exact Nat.le_trans hz (by decide)) ?_
    intro h' n' hs ho'
    have e : ws.toArray.extract 0 ia ++ zs.toArray ++ ws.toArray.extract ja ws.toArray.size = (ws.take ia ++ zs ++ ws.drop ja).toArray := by
      apply Array.toList_inj.mp
      simp [Array.toList_extract, List.extract_eq_take_drop, List.take_of_length_le]
    rw [e] at ho'
    have N1 := (N.grown (h' := s3.heap.push { cls := .type "slice", data := .fields #[.int ia t2, .int ja t3, .none] }) fun _ _ e => Heap.get?_push_of_some _ e)
    exact ⟨lo, led', fin _ h' _ (.list (((qv.take _).app g4).app (qv.drop _))) (Fr.change (Fm.push _) hs hmem.2.1 hmem.2.2) (news_set N1 n1 n2' hs ho'), k⟩
theorem X.setslice {l l2 : Addr} (he : Ev F lev c lo led e (.ref l2)) (ho : Ev F lev c lo led o (.ref l)) (hx : Ev F lev c lo led x (.int i t)) (hy : Ev F lev c lo led y (.int j u)) (h2 : (l2, AO.list us) ∈ led) (R : Rep l (.list vs) (.list (vs.take i.toNat ++ us ++ vs.drop j.toNat)) led led')
    (h0 : 0 ≤ i) (h1 : i ≤ j) (hj : j ≤ vs.length) (hz : vs.length + us.length ≤ 1000000) (hc : noComp e = true) (k : X F lev c Φ lo led' rest) : X F lev c Φ lo led (.Assign [.Subscript o (.Slice (some x) (some y) none p) p2] e pos :: rest) := X.setsliceE hc (Ex.ev he (SetSl.mk ho hx hy h2 R h0 h1 hj hz k))
theorem X.retS {K : Value → ALed → Prop} (h : Ex F lev c lo led e fun v led1 => ∃ led2 r, Split led1 led2 r ∧ K v led2) : X F lev c (Fl.fn K) lo led (.Return (some e) pos :: rest) := fun ok s S E =>
  X.step (Φ := Fl.fn K) (fun ok s S E => wpAny_Return_some (wpAny_mono (h ok s S E) (fun v' s' ⟨v, led1, q, S', led2, r, Sp, k⟩ => ⟨v, lo, led2, q, (S'.split Sp).front, k⟩) fun _ _ x => x)) ok s S E
theorem NewA.mk {attr : Str} {x C : Addr} {fs fs' : Fields} {k : ALed → Prop} {t : Expr} (ht : Ev F lev c lo led1 t (.ref x)) (hR : Rep x (.inst C fs) (.inst C fs') led1 led') (hf : AddF attr v fs fs') (hn : (fs.map (·.1)).contains attr = false) (hz : Nat.ble (fs.length + 1) 1000 = true)
    (h1 : findIn (Mine.fr0.heap_1 c.w.params) (.ref C) "__setattr__" = some (some (.builtin "object.__setattr__"))) (h2 : plainOver (Mine.fr0.heap_1 c.w.params) C = true) (h3 : takerIn (Mine.fr0.heap_1 c.w.params) C attr = some Option.none) (h4 : hasDictIn (Mine.fr0.heap_1 c.w.params) C = true) (hk : k led') : NewA F lev c lo led1 t attr v k := ⟨x, C, fs, fs', led', ht, hR, hf, hn, hz, h1, h2, h3, h4, hk⟩
theorem SetA.mk {attr : Str} {x C : Addr} {fs fs' : Fields} {k : ALed → Prop} {t : Expr} (ht : Ev F lev c lo led1 t (.ref x)) (hR : Rep x (.inst C fs) (.inst C fs') led1 led') (hf : SetF attr v fs fs') (hz : Nat.ble fs.length 1000 = true)
    (h1 : findIn (Mine.fr0.heap_1 c.w.params) (.ref C) "__setattr__" = some (some (.builtin "object.__setattr__"))) (h2 : plainOver (Mine.fr0.heap_1 c.w.params) C = true) (h3 : takerIn (Mine.fr0.heap_1 c.w.params) C attr = some Option.none) (h4 : hasDictIn (Mine.fr0.heap_1 c.w.params) C = true) (hk : k led') : SetA F lev c lo led1 t attr v k := ⟨x, C, fs, fs', led', ht, hR, hf, hz, h1, h2, h3, h4, hk⟩
inductive AppP (l : Addr) (P : Value → ALed → Prop) (v : Value) (led1 : ALed) : Prop
  | mk (vs : List Value) (led2 : ALed) (R : Rep l (.list vs) (.list (vs ++ [v])) led1 led2) (hz : vs.length ≤ 1000000) (k : P .none led2)
theorem Ex.appendE {l : Addr} {pl : Env → Sem Bool} (ho : Ev F lev c lo led o (.ref l)) (hm : (l, AO.list us) ∈ led) (hs : noStar e = true)
    (hq : ∀ env : Env, eval (.Call (.Attribute o "append" ap) [e] [] pos) env = (do
      let ov ← eval o env
      standAt ap.atName
      let (f, first) ← holding [ov] (getMethod ov "append" (pl env))
      callWith pos f first (backTo pos (starEach [e] env)) []))
    (he : Ex F lev c lo led e (AppP l P)) : Ex F lev c lo led (.Call (.Attribute o "append" ap) [e] [] pos) P := by
  intro ok s S E
  refine MethodCall_ (pl := pl (c.env F)) (ho ok s S _ _ fun ov s1 q1 S1 => ?_) (hq _)
  cases q1.ref_inv
  have S0 := S1
  obtain ⟨sm, lk, m, cl, Fm, hlo, D, N, nd⟩ := S1
  obtain ⟨k, d, hl⟩ := D.get hm
  cases d with
  | list qd =>
    refine listMethod_K N (hl _ (.head _)) PySem.F.slot_list_append PySem.F.type_list_append ?_
    have zz : Exs F lev c lo led [e] (fun vs led1 => ∃ v, vs = [v] ∧ AppP l P v led1) := Exs.cons hs (he.mono fun v l h => Exs.nil ⟨v, rfl, h⟩)
    have z := zz ok s1 S0 pos E
    have hp : (backTo pos (starEach [e] (c.env F))).any (·.1) = false := all_plain (by simp [hs]) pos _
    rw [star_no hs] at z hp ⊢
    refine callWith_builtin hp (evalArgs_plain (wpAny_mono z (fun vs' s' ⟨vs, led1, q, S', v, e1, vs0, led2, R, hz, k⟩ => ?_) fun _ _ x => x))
    subst e1
    obtain ⟨v', rfl, q2⟩ := q.one
    obtain ⟨pre, post, ws, n, m, sm, lk, Fm, hlo, N, qv, n1, n2, fin⟩ := S'.turn R
    exact append_K Fm N (upd_of n1 n2) (fun h' F' N' => ⟨.none, led2, .refl _, fin _ h' _ (by rw [show ws.toArray.push v' = (ws ++ [v']).toArray by simp]; exact .list (qv.app (.cons q2 .nil))) F' N', k⟩) (by rw [List.size_toArray, ← qv.length, sizeLine_eq]; omega)
theorem Ev.iteT {t a b : Expr} {u : Value} (h : Ts F lev c lo led t true) (h1 : Ev F lev c lo led a u) : Ev F lev c lo led (.IfExp t a b pos) u := Ev.ite (v := u) h (fun _ => h1) (fun h => by cases h)
theorem Ev.iteF {t a b : Expr} {u : Value} (h : Ts F lev c lo led t false) (h1 : Ev F lev c lo led b u) : Ev F lev c lo led (.IfExp t a b pos) u := Ev.ite (u := u) h (fun h => by cases h) (fun _ => h1)
theorem Ev.titemA {l : Addr} {n : Nat} (he : Ev F lev c lo led a (.ref l)) (h2 : Ev F lev c lo led b (.int n t)) (hm : TupAt c led l vs) (hz : Nat.ble n 1000 = true) (hv : vs[n]? = some v)
    (hs : ∀ x t, subscripted b false (.ref x) (.int n t) = operate [.ref x, .int n t] (getItem (.ref x) (.int n t)) := by with_unfolding_all exact fun _ _ => rfl) : Ev F lev c lo led (.Subscript a b pos) v := by
  intro ok s S Q E k
  refine Subscript_ (he ok s S _ _ fun v1 s1 q1 S1 => h2 ok s1 S1 _ _ fun v2 s2 q2 S2 => ?_)
  cases q1.ref_inv
  obtain ⟨t2, rfl⟩ := q2.int_inv
  obtain ⟨ws, n2, g1, g2⟩ := hm.get ok S2
  obtain ⟨v', g3, g4⟩ := g2.get hv
  have := Nat.le_of_ble_eq_true hz
  have hlt := (List.getElem?_eq_some_iff.mp g3).1
  exact item_tupleT (j := n) ⟨_, g1, rfl, _, rfl⟩ (by omega) (by omega) (by unfold seqIndex?; simp; omega) g3 (k _ _ g4 S2) (hs _ _)
end
end
section
theorem mv_moved1 (A G B : List Int) (a : Nat) (h : a ≤ A.length) : ((A ++ G ++ B).drop a).take (A.length - a) = A.drop a := by
  rw [List.append_assoc, List.drop_append_of_le_length h, List.take_append_of_le_length (by simp), List.take_of_length_le (by simp)]
theorem mv_drop (A G B : List Int) : (A ++ G ++ B).drop (A.length + G.length) = B := by
  rw [← List.length_append, List.drop_left]
theorem mv1 (A G B : List Int) (a : Nat) (h : a ≤ A.length) : (A ++ G ++ B).take (a + G.length) ++ A.drop a ++ (A ++ G ++ B).drop (A.length + G.length) = A.take a ++ ((A ++ G ++ B).take (a + G.length)).drop a ++ (A.drop a ++ B) := by
  rw [mv_drop]
  have e : (A ++ G ++ B).take (a + G.length) = A.take a ++ ((A ++ G ++ B).take (a + G.length)).drop a := by
    have := (List.take_append_drop a ((A ++ G ++ B).take (a + G.length))).symm
    rwa [List.take_take, Nat.min_eq_left (Nat.le_add_right _ _), List.append_assoc A, List.take_append_of_le_length h, ← List.append_assoc A] at this
  generalize ((A ++ G ++ B).take (a + G.length)).drop a = X at e ⊢
  rw [e]
  simp [List.append_assoc]
theorem mv1_len (A G B : List Int) (a : Nat) (h : a ≤ A.length) : (((A ++ G ++ B).take (a + G.length)).drop a).length = G.length := by
  rw [List.length_drop, List.length_take, Nat.min_eq_left (by rw [List.length_append, List.length_append]; exact Nat.le_trans (Nat.add_le_add_right h _) (Nat.le_add_right _ _)), Nat.add_sub_cancel_left]
theorem mv_moved2 (A G B : List Int) (k : Nat) : ((A ++ G ++ B).drop (A.length + G.length)).take k = B.take k := by rw [mv_drop]
theorem mv2 (A G B : List Int) (k : Nat) (h : k ≤ B.length) : (A ++ G ++ B).take A.length ++ B.take k ++ (A ++ G ++ B).drop (A.length + k) = (A ++ B.take k) ++ ((G ++ B).drop k).take G.length ++ B.drop k := by
  rw [List.append_assoc A, List.take_left, List.drop_append, List.drop_of_length_le (Nat.le_add_right _ _), Nat.add_sub_cancel_left, List.nil_append, List.append_assoc (A ++ _)]
  congr 1
  have := (List.take_append_drop G.length ((G ++ B).drop k)).symm
  have e2 : (G ++ B).drop (G.length + k) = B.drop k := by rw [List.drop_append, List.drop_of_length_le (Nat.le_add_right _ _), Nat.add_sub_cancel_left, List.nil_append]
  rwa [List.drop_drop, Nat.add_comm k, e2] at this
theorem mv2_len (G B : List Int) (k : Nat) (h : k ≤ B.length) : (((G ++ B).drop k).take G.length).length = G.length := by
  rw [List.length_take, List.length_drop, List.length_append, Nat.min_eq_left (Nat.le_sub_of_add_le (Nat.add_le_add_left h _))]
theorem cd1 (A G B : List Int) (s e : Nat) (h : s ≤ e) (he : e ≤ A.length) : ((A ++ G ++ B).drop s).take (min e (A.length + G.length + B.length) - s) = ((A ++ B).drop s).take (e - s) := by
  have hs := Nat.le_trans h he
  have hl : e - s ≤ (A.drop s).length := by rw [List.length_drop]; exact Nat.sub_le_sub_right he _
  rw [Nat.min_eq_left (Nat.le_trans he (by rw [Nat.add_assoc]; exact Nat.le_add_right _ _)), List.append_assoc, List.drop_append_of_le_length hs, List.drop_append_of_le_length hs, List.take_append_of_le_length hl, List.take_append_of_le_length hl]
theorem drop_ge (A B : List Int) (k : Nat) : (A ++ B).drop (A.length + k) = B.drop k := by
  rw [List.drop_append, List.drop_of_length_le (Nat.le_add_right _ _), Nat.add_sub_cancel_left, List.nil_append]
theorem cd2 (A G B : List Int) (s e : Nat) (h : s ≤ e) (hs : A.length ≤ s) (he : e ≤ A.length + B.length) : ((A ++ G ++ B).drop (s + G.length)).take (min (e + G.length) (A.length + G.length + B.length) - (s + G.length)) = ((A ++ B).drop s).take (e - s) := by
  obtain ⟨k, rfl⟩ := Nat.exists_eq_add_of_le hs
  rw [Nat.min_eq_left (by rw [Nat.add_right_comm]; exact Nat.add_le_add_right he _), Nat.add_sub_add_right, drop_ge, show A.length + k + G.length = (A ++ G).length + k by rw [List.length_append, Nat.add_right_comm], drop_ge]
theorem cd3 (A G B : List Int) (s e : Nat) (hs : s ≤ A.length) (h : A.length ≤ e) (he : e ≤ A.length + B.length) :
    ((A ++ G ++ B).drop s).take (min A.length (A.length + G.length + B.length) - s) ++ ((A ++ G ++ B).drop (A.length + G.length)).take (min (e + G.length) (A.length + G.length + B.length) - (A.length + G.length)) = ((A ++ B).drop s).take (e - s) := by
  obtain ⟨k, rfl⟩ := Nat.exists_eq_add_of_le h
  obtain ⟨u, hu⟩ := Nat.exists_eq_add_of_le hs
  have hd : (A.drop s).length = u := by rw [List.length_drop, hu, Nat.add_sub_cancel_left]
  have e1 : A.length - s = u := by rw [hu, Nat.add_sub_cancel_left]
  have e2 : A.length + k - s = u + k := by rw [hu, Nat.add_assoc, Nat.add_sub_cancel_left]
  have e3 : A.length + k + G.length - (A.length + G.length) = k := by rw [Nat.add_right_comm, Nat.add_sub_cancel_left]
  rw [Nat.min_eq_left (by rw [Nat.add_assoc]; exact Nat.le_add_right _ _), Nat.min_eq_left (by rw [Nat.add_right_comm A.length G.length]; exact Nat.add_le_add_right he _), e1, e2, e3, List.append_assoc A, List.drop_append_of_le_length hs, List.take_append_of_le_length (Nat.le_of_eq hd.symm), List.take_of_length_le (Nat.le_of_eq hd), ← List.append_assoc A, ← List.length_append, List.drop_left, List.drop_append_of_le_length hs, List.take_append, List.take_of_length_le (l := A.drop s) (by rw [hd]; exact Nat.le_add_right _ _), hd, Nat.add_sub_cancel_left]
theorem dl_post (A9 G9 B9 : List Int) (s e : Nat) (h1 : s ≤ A9.length) (h2 : A9.length ≤ e) (h3 : e ≤ A9.length + B9.length) :
    A9 ++ G9 ++ B9 = A9.take s ++ (A9.drop s ++ G9 ++ B9.take (e - A9.length)) ++ B9.drop (e - A9.length) ∧ (A9 ++ B9).take s = A9.take s ∧ (A9 ++ B9).drop e = B9.drop (e - A9.length) := by
  refine ⟨?_, List.take_append_of_le_length h1, ?_⟩
  · simp only [List.append_assoc, List.take_append_drop]
    rw [← List.append_assoc (A9.take s), List.take_append_drop]
  · rw [List.drop_append, List.drop_of_length_le h2, List.nil_append]
end
open PySem PySem.W PySem.Calls PyProof.Rows PySem.Spec
noncomputable abbrev sN (x : String) : Str := Str.ofString x
theorem mm1 {α : Type} {a p : α} {r : List α} : p ∈ a :: p :: r := .tail _ (.head _)
theorem mm2 {α : Type} {a b p : α} {r : List α} : p ∈ a :: b :: p :: r := .tail _ mm1
theorem mm3 {α : Type} {a b c p : α} {r : List α} : p ∈ a :: b :: c :: p :: r := .tail _ mm2
theorem mm4 {α : Type} {a b c d p : α} {r : List α} (h : p ∈ r) : p ∈ a :: b :: c :: d :: r := .tail _ (.tail _ (.tail _ (.tail _ h)))
theorem rmm1 {p a : Addr × AO} {r : ALed} : Rem p (a :: p :: r) (a :: r) := .tail .head
theorem rmm2 {p a b : Addr × AO} {r : ALed} : Rem p (a :: b :: p :: r) (a :: b :: r) := .tail rmm1
theorem rmm3 {p a b c : Addr × AO} {r : ALed} : Rem p (a :: b :: c :: p :: r) (a :: b :: c :: r) := .tail rmm2
theorem rmm4 {p a b c d : Addr × AO} {r r' : ALed} (h : Rem p r r') : Rem p (a :: b :: c :: d :: r) (a :: b :: c :: d :: r') := .tail (.tail (.tail (.tail h)))
theorem reml4 {T : ALed} {a b c d : Addr × AO} {r r' : ALed} (h : RemL T r r') : RemL T (a :: b :: c :: d :: r) (a :: b :: c :: d :: r') := .tail (.tail (.tail (.tail h)))
theorem setl1 {x : Str} {v : Value} {a : Str × Option Value} {u : Option Value} {r : Lo} : SetL x v (a :: (x, u) :: r) (a :: (x, some v) :: r) := .tail .head
theorem setl2 {x : Str} {v : Value} {a b : Str × Option Value} {u : Option Value} {r : Lo} : SetL x v (a :: b :: (x, u) :: r) (a :: b :: (x, some v) :: r) := .tail setl1
theorem setl3 {x : Str} {v : Value} {a b c : Str × Option Value} {u : Option Value} {r : Lo} : SetL x v (a :: b :: c :: (x, u) :: r) (a :: b :: c :: (x, some v) :: r) := .tail setl2
theorem setl4 {x : Str} {v : Value} {a b c d : Str × Option Value} {r r' : Lo} (h : SetL x v r r') : SetL x v (a :: b :: c :: d :: r) (a :: b :: c :: d :: r') := .tail (.tail (.tail (.tail h)))
theorem setf4 {n : Str} {v : Value} {a b c d : Str × Value} {r r' : Fields} (h : SetF n v r r') : SetF n v (a :: b :: c :: d :: r) (a :: b :: c :: d :: r') := .tail (.tail (.tail (.tail h)))
theorem addf4 {n : Str} {v : Value} {a b c d : Str × Value} {r r' : Fields} (h : AddF n v r r') : AddF n v (a :: b :: c :: d :: r) (a :: b :: c :: d :: r') := .cons (.cons (.cons (.cons h)))
theorem rep1 {x : Addr} {o o' : AO} {a : Addr × AO} {r : ALed} : Rep x o o' (a :: (x, o) :: r) (a :: (x, o') :: r) := .tail .head
theorem rep2 {x : Addr} {o o' : AO} {a b : Addr × AO} {r : ALed} : Rep x o o' (a :: b :: (x, o) :: r) (a :: b :: (x, o') :: r) := .tail rep1
local macro_rules | `(tactic| walk_at "h_mem") => `(tactic| first
  | with_reducible exact List.mem_cons_self
  | with_reducible exact mm1
  | with_reducible exact mm2
  | with_reducible exact mm3
  | with_reducible assumption
  | ((with_reducible refine' mm4 ?_); walk_at "h_mem")
  | ((fail_if_success with_reducible refine' mm4 ?_); (with_reducible refine' List.mem_cons_of_mem _ ?_); walk_at "h_mem")
  | ((with_reducible refine' List.mem_append_left _ ?_); walk_at "h_mem")
  | ((with_reducible refine' List.mem_append_right _ ?_); walk_at "h_mem"))
local macro_rules | `(tactic| walk_at "h_attr") => `(tactic| ((with_reducible refine' Ev.attr ?e ?m ?f ?h1 ?h2 ?h3 ?h4 ?h5 ?so); (case e => walk_at "h_ev"); (case m | f => walk_at "h_mem"); (case h1 | h2 => kernel_rfl); (case h3 => k_is); (case h4 => kernel_rfl); (case h5 => first | rfl | assumption); (case so => kernel_rfl)))
local macro_rules | `(tactic| walk_at "h_ev") => `(tactic| first
  | ((with_reducible refine' Ev.loc ?a); (case a => walk_at "h_mem"))
  | with_reducible exact Ev.int
  | with_reducible exact Ev.none
  | with_reducible exact Ev.bool
  | with_reducible exact Ev.str
  | walk_at "h_attr"
  | ((with_reducible refine' Ev.sub ?a ?b); (case a | b => walk_at "h_ev"))
  | ((with_reducible refine' Ev.add ?a ?b); (case a | b => walk_at "h_ev"))
  | with_reducible exact Ev.neg
  | ((with_reducible refine' Ev.len ?e ?m ?z ?s ?g ?n ?v); (case e => walk_at "h_ev"); (case m => walk_at "h_mem"); (case s | g | n => kernel_rfl); (case z => walk_at "h_z"); (case v => walk_at "h_len"))
  | ((with_reducible refine' Ev.max ?a ?b ?s ?s2 ?g ?n); (case a | b => walk_at "h_ev"); (case s | s2 | g | n => kernel_rfl))
  | ((with_reducible refine' Ev.min ?a ?b ?s ?s2 ?g ?n); (case a | b => walk_at "h_ev"); (case s | s2 | g | n => kernel_rfl))
  | ((with_reducible refine' Ev.cmp ?a ?b ?c ?m); (case a | b => walk_at "h_ev"); (case c => walk_at "h_cmp"); (case m => rfl))
  | ((with_reducible refine' Ev.titem ?e ?b ?m ?z ?v); (case e => walk_at "h_ev"); (case b => (with_reducible exact Ev.int)); (case m => walk_at "h_mem"); (case z | v => rfl))
  | walk_at "h_ev2")
local macro_rules | `(tactic| walk_at "h_ev2") => `(tactic| first
  | ((with_reducible refine' Ev.ditem ?a ?b ?m ?v); (case a | b => walk_at "h_ev"); (case m => walk_at "h_mem"); (case v => assumption))
  | ((with_reducible refine' Ev.item ?a ?b ?m ?h0 ?z ?v); (case a | b => walk_at "h_ev"); (case m => walk_at "h_mem"); (case h0 | z | v => assumption))
  | ((with_reducible refine' Ev.iteT ?t ?a); (case t => walk_at "h_ts"); (case a => walk_at "h_ev"))
  | ((with_reducible refine' Ev.iteF ?t ?a); (case t => walk_at "h_ts"); (case a => walk_at "h_ev"))
  | ((with_reducible refine' Ev.or ?a ?b); (case a => walk_at "h_ev"); (case b => (intro hb; walk_at "h_ev")))
  | ((with_reducible refine' Ev.and ?a ?b); (case a => walk_at "h_ev"); (case b => (intro hb; walk_at "h_ev")))
  | ((with_reducible refine' Ev.bone ?a); (case a => walk_at "h_ev")))
theorem lenIv (ns : List Int) : ((iv ns).length : Int) = ns.length := congrArg _ (List.length_map _)
local macro_rules | `(tactic| walk_at "h_len") => `(tactic| first | with_reducible exact lenIv _ | rfl)
local macro_rules | `(tactic| walk_at "h_z") => `(tactic| first | assumption | omega | ((simp only [List.length_append, List.length_cons, List.length_nil, List.length_map, List.length_take, List.length_drop]); omega))
local macro_rules | `(tactic| walk_at "h_evs") => `(tactic| first | with_reducible exact Evs.nil | ((with_reducible refine' Evs.cons ?n ?a ?b); (case n => kernel_rfl); (case a => walk_at "h_ev"); (case b => walk_at "h_evs")))
local macro_rules | `(tactic| walk_at "h_cmp") => `(tactic| first
  | with_reducible exact Cmp.gt | with_reducible exact Cmp.lt | with_reducible exact Cmp.le | with_reducible exact Cmp.ge | with_reducible exact Cmp.eq | with_reducible exact Cmp.ne
  | with_reducible exact Cmp.isN | with_reducible exact Cmp.isnotN | exact Cmp.isF rfl | exact Cmp.isnot rfl
  | ((with_reducible refine' Cmp.eqs (p := true) ?e); (case e => decide +kernel)) | ((with_reducible refine' Cmp.eqs (p := false) ?e); (case e => decide +kernel))
  | walk_at "h_cmp2")
local macro_rules | `(tactic| walk_at "h_cmp2") => `(tactic| fail "h_cmp2")
local macro_rules | `(tactic| walk_at "h_ts") => `(tactic| first
  | ((with_reducible refine' Ts.cmp ?a ?b ?c ?m); (case a | b => walk_at "h_ev"); (case c => walk_at "h_cmp"); (case m => rfl))
  | ((with_reducible refine' Ts.not ?a); (case a => walk_at "h_ts"))
  | with_reducible exact Ts.andNil
  | with_reducible exact Ts.orNil
  | ((with_reducible refine' Ts.and ?a ?b); (case a => walk_at "h_ts"); (case b => (intro hb; walk_at "h_ts")))
  | ((with_reducible refine' Ts.or ?a ?b); (case a => walk_at "h_ts"); (case b => (intro hb; walk_at "h_ts")))
  | ((with_reducible refine' Ts.val ?a ?b); (case a => walk_at "h_ev"); (case b => rfl)))
local macro_rules | `(tactic| walk_at "h_setl") => `(tactic| first
  | with_reducible exact SetL.head
  | with_reducible exact setl1
  | with_reducible exact setl2
  | with_reducible exact setl3
  | ((with_reducible refine' setl4 ?a); (case a => walk_at "h_setl"))
  | ((fail_if_success with_reducible refine' setl4 ?_); (with_reducible refine' SetL.tail ?a); (case a => walk_at "h_setl")))
local macro_rules | `(tactic| walk_at "h_setts") => `(tactic| first | with_reducible exact SetTs.nil | ((with_reducible refine' SetTs.cons ?a ?b); (case a => walk_at "h_setl"); (case b => walk_at "h_setts")))
local macro_rules | `(tactic| walk_at "h_setns") => `(tactic| first | with_reducible exact SetNs.nil | ((with_reducible refine' SetNs.cons ?a ?b); (case a => walk_at "h_setl"); (case b => walk_at "h_setns")))
local macro_rules | `(tactic| walk_at "h_setns2") => `(tactic| ((show SetNs (_ :: _ :: []) (_ :: _ :: []) _ _); walk_at "h_setns"))
local macro_rules | `(tactic| walk_at "h_setns3") => `(tactic| ((show SetNs (_ :: _ :: _ :: []) (_ :: _ :: _ :: []) _ _); walk_at "h_setns"))
local macro_rules | `(tactic| walk_at "h_setf") => `(tactic| first
  | with_reducible exact SetF.head
  | with_reducible exact SetF.tail SetF.head
  | with_reducible exact SetF.tail (SetF.tail SetF.head)
  | with_reducible exact SetF.tail (SetF.tail (SetF.tail SetF.head))
  | ((with_reducible refine' setf4 ?a); (case a => walk_at "h_setf")))
local macro_rules | `(tactic| walk_at "h_addf") => `(tactic| first | with_reducible exact AddF.nil | ((with_reducible refine' addf4 ?a); (case a => walk_at "h_addf")) | ((with_reducible refine' AddF.cons ?a); (case a => walk_at "h_addf")))
local macro_rules | `(tactic| walk_at "h_rep") => `(tactic| first
  | with_reducible exact Rep.head
  | with_reducible exact rep1
  | with_reducible exact rep2
  | ((with_reducible refine' Rep.tail ?a); (case a => walk_at "h_rep"))
  | ((with_reducible refine' Rep.skip ?a); (case a => walk_at "h_rep")))
local macro_rules | `(tactic| walk_at "h_rem") => `(tactic| first
  | with_reducible exact Rem.head
  | with_reducible exact rmm1
  | with_reducible exact rmm2
  | with_reducible exact rmm3
  | ((with_reducible refine' rmm4 ?a); (case a => walk_at "h_rem"))
  | ((fail_if_success with_reducible refine' rmm4 ?_); (with_reducible refine' Rem.tail ?a); (case a => walk_at "h_rem"))
  | ((with_reducible refine' Rem.skip ?a); (case a => walk_at "h_rem")))
local macro_rules | `(tactic| walk_at "h_reml") => `(tactic| first
  | with_reducible exact RemL.head
  | with_reducible exact RemL.all
  | ((with_reducible refine' reml4 ?a); (case a => walk_at "h_reml"))
  | ((fail_if_success with_reducible refine' reml4 ?_); (with_reducible refine' RemL.tail ?a); (case a => walk_at "h_reml"))
  | ((with_reducible refine' RemL.skip ?a); (case a => walk_at "h_reml")))
local macro_rules | `(tactic| walk_at "h_split") => `(tactic| first | with_reducible exact Split.nil | ((with_reducible refine' Split.cons ?a ?b); (case a => walk_at "h_rem"); (case b => walk_at "h_split")) | ((with_reducible refine' Split.app ?a ?b); (case a => walk_at "h_reml"); (case b => walk_at "h_split")) | ((with_reducible refine' Split.last ?a); (case a => walk_at "h_reml")))
local macro_rules | `(tactic| walk_at "h_lo") => `(tactic| first | exact MkLo.nil | (refine' MkLo.arg ?a; (case a => walk_at "h_lo")) | (refine' MkLo.loc ?a; (case a => walk_at "h_lo")))
local macro_rules | `(tactic| walk_at "h_meth") => `(tactic| ((case ho => walk_at "h_ev"); (case hm => walk_at "h_mem"); (case ha => walk_at "h_evs"); (case Sp => walk_at "h_split"); (case hns | hno | h1 | h2 | h3 | hk | hl => kernel_rfl); (case he => exact fun _ => rfl)))
local macro_rules | `(tactic| walk_at "h_call") => `(tactic| ((case ha => walk_at "h_evs"); (case Sp => walk_at "h_split"); (case hn | hk | hg | hl => kernel_rfl)))
local macro_rules | `(tactic| walk_at "h_intro") => `(tactic| ((case ho => (intro w; k_is)); (case hcd => (intro w; k_is)); (case ml => walk_at "h_lo"); (case hn | hco | hgen | hk | hcell => kernel_rfl)))
local macro_rules | `(tactic| walk_at "h_setattr") => `(tactic| ((with_reducible refine' X.setattr ?he ?ht ?hR ?hf ?hc ?hz ?h1 ?h2 ?h3 ?h4 ?k); (case he | ht => walk_at "h_ev"); (case hR => walk_at "h_rep"); (case hf => walk_at "h_setf"); (case hc | hz | h1 | h2 | h3 | h4 => kernel_rfl)))
local macro_rules | `(tactic| walk_at "h_setattrR") => `(tactic| ((case ht => walk_at "h_ev"); (case hR => walk_at "h_rep"); (case hf => walk_at "h_setf"); (case hz | h1 | h2 | h3 | h4 => kernel_rfl)))
local macro_rules | `(tactic| walk_at "h_newattr") => `(tactic| ((with_reducible refine' X.newattrV ?he ?ht ?hR ?hf ?hn ?hc ?hz ?h1 ?h2 ?h3 ?h4 ?k); (case he | ht => walk_at "h_ev"); (case hR => walk_at "h_rep"); (case hf => walk_at "h_addf"); (case hn | hc | hz | h1 | h2 | h3 | h4 => kernel_rfl)))
local macro_rules | `(tactic| walk_at "h_newa") => `(tactic| ((refine' NewA.mk (k := fun led => X _ _ _ _ _ led _) ?ht ?hR ?hf ?hn ?hz ?h1 ?h2 ?h3 ?h4 ?k); walk_at "h_newattrR"))
local macro_rules | `(tactic| walk_at "h_seta") => `(tactic| ((refine' SetA.mk (k := fun led => X _ _ _ _ _ led _) ?ht ?hR ?hf ?hz ?h1 ?h2 ?h3 ?h4 ?k); walk_at "h_setattrR"))
local macro_rules | `(tactic| walk_at "h_newattrR") => `(tactic| ((case ht => walk_at "h_ev"); (case hR => walk_at "h_rep"); (case hf => walk_at "h_addf"); (case hn | hz | h1 | h2 | h3 | h4 => kernel_rfl)))
local macro_rules | `(tactic| walk_at "h_assign") => `(tactic| ((with_reducible refine' X.assign ?hx ?hc ?h ?k); (case hc => kernel_rfl); (case h => walk_at "h_ev"); (case hx => walk_at "h_setl")))
local macro_rules | `(tactic| walk_at "h_slice") => `(tactic| ((with_reducible refine' Ex.slice ?ha ?h1 ?h2 ?hm ?h0 ?hj ?hz ?k); (case ha | h1 | h2 => walk_at "h_ev"); (case hm => walk_at "h_mem"); (case hz => walk_at "h_z")))
local macro_rules | `(tactic| walk_at "h_setslice") => `(tactic| ((with_reducible refine' X.setslice ?he ?ho ?hx ?hy ?h2 ?R ?h0 ?h1 ?hj ?hz ?hc ?k); (case he | ho | hx | hy => walk_at "h_ev"); (case h2 => walk_at "h_mem"); (case R => walk_at "h_rep"); (case hc => kernel_rfl); (case hz => walk_at "h_z")))
local macro_rules | `(tactic| walk_at "h_sl") => `(tactic| ((with_reducible refine' SetSl.mk ?ho ?hx ?hy ?h2 ?R ?h0 ?h1 ?hj ?hz ?k); (case ho | hx | hy => walk_at "h_ev"); (case h2 => walk_at "h_mem"); (case R => walk_at "h_rep")))
local macro_rules | `(tactic| walk_at "h_append") => `(tactic| ((with_reducible refine' Ex.append ?ho ?he ?hs ?R ?hz ?hq ?k); (case ho | he => walk_at "h_ev"); (case hs => kernel_rfl); (case R => walk_at "h_rep"); (case hq => exact fun _ => rfl)))
local macro_rules | `(tactic| walk_at "h_appendE") => `(tactic| ((with_reducible refine' Ex.appendE ?ho ?hm ?hs ?hq ?he); (case ho => walk_at "h_ev"); (case hm => walk_at "h_mem"); (case hs => kernel_rfl); (case hq => exact fun _ => rfl)))
local macro_rules | `(tactic| walk_at "h_new") => `(tactic| ((case hn | hk | hg | hm | hi | hf => kernel_rfl)))
local macro_rules | `(tactic| walk_at "h_ev2") => `(tactic| ((with_reducible refine' Ev.cell ?hc ?m ?k); (case hc => assumption); (case m => walk_at "h_mem"); (case k => kernel_rfl)))
section
open PySem PySem.W PySem.Calls PyProof.Rows PySem.Spec PyProof.V
section
variable {F : Fn} {lev : Nat} {c : Cx} {lo lo' : Lo} {led led' led1 led2 led4 led5 : ALed} {Φ : Fl} {rest body : List Stmt}
theorem X.tend {its r5 : ALed} {J : Lo → ALed → Prop} (S1 : Split led its led4) (S2 : Split led4 led5 r5) (hJ : J lo led5) : X F lev c (Φ.turn its J) lo led [] := fun ok s S E =>
  wpAny_execs_nil ⟨lo, its ++ led5, ((S.split S1).split (Split.app RemL.head S2)).front, led5, .last .head, hJ⟩
theorem Ex.ite {t a b : Expr} {p : Bool} {pos : Pos} {P : Value → ALed → Prop} (h : Ts F lev c lo led t p) (h1 : p = true → Ex F lev c lo led a P) (h2 : p = false → Ex F lev c lo led b P) : Ex F lev c lo led (.IfExp t a b pos) P := fun ok s S E =>
  wpAny_IfExp (h ok s S _ _ fun s' S' => by
    cases p with
    | true => exact h1 rfl ok s' S' E
    | false => exact h2 rfl ok s' S' E)
theorem X.setattrC {t e : Expr} {attr : Str} {p pos : Pos} (hsw : ∀ env, swapsWith e (some (.Attribute t attr p)) pos.line env = pure false) (h : Ex F lev c lo led e fun v led1 => SetA F lev c lo led1 t attr v fun led' => X F lev c Φ lo led' rest) :
    X F lev c Φ lo led (.Assign [.Attribute t attr p] e pos :: rest) :=
  X.step fun ok s S E => plainObj_wpAny_Assign_Attribute (wpAny_mono (h ok s S E) (fun v' s' ⟨v, led1, q, S', x, C, fs, fs', led', ht, hR, hf, hz, h1, h2, h3, h4, k⟩ => ht ok s' S' _ _ fun ov s2 q2 S2 => by
    cases q2.ref_inv
    exact setA ok hR hf hz h1 h2 h3 h4 q S2 fun s3 S3 => ⟨lo, led', S3, k⟩) fun _ _ x => x) (hsw _)
theorem clos_eq {scope : Scope} {env : Env} {cl0 cl : List (Str × Addr)} (h : env.cells = cl0) (e : closureFor scope { env with cells := cl0 } = pure cl) : closureFor scope env = pure cl := by subst h; exact e
theorem lk_eq {cl cl0 : List (Str × Addr)} {x : Str} {d : Addr} (h : cl = cl0) (e : cl0.lookup x = some d) : cl.lookup x = some d := h ▸ e
theorem cells2 {x y : Str} {n : Nat} {f : Str → Option NameKind} (hxy : x ≠ y) (h1 : f x ≠ some .local) (h2 : f y ≠ some .local) : (([(x, n + 1), (y, n)] : List (Str × Addr)).map (·.2)).Nodup ∧ (([(x, n + 1), (y, n)] : List (Str × Addr)).map (·.1)).Nodup ∧ (∀ p ∈ ([(x, n + 1), (y, n)] : List (Str × Addr)), n ≤ p.2) ∧ (∀ p ∈ ([(x, n + 1), (y, n)] : List (Str × Addr)), f p.1 ≠ some .local) :=
  ⟨List.nodup_cons.mpr ⟨fun h => Nat.succ_ne_self n (List.mem_singleton.mp h), List.nodup_cons.mpr ⟨List.not_mem_nil, .nil⟩⟩, List.nodup_cons.mpr ⟨fun h => hxy (List.mem_singleton.mp h), List.nodup_cons.mpr ⟨List.not_mem_nil, .nil⟩⟩,
    List.forall_mem_cons.mpr ⟨Nat.le_succ n, List.forall_mem_cons.mpr ⟨Nat.le_refl n, List.forall_mem_nil _⟩⟩, List.forall_mem_cons.mpr ⟨h1, List.forall_mem_cons.mpr ⟨h2, List.forall_mem_nil _⟩⟩⟩
theorem cells1 {x : Str} {n : Nat} {f : Str → Option NameKind} (h1 : f x ≠ some .local) : (([(x, n)] : List (Str × Addr)).map (·.2)).Nodup ∧ (([(x, n)] : List (Str × Addr)).map (·.1)).Nodup ∧ (∀ p ∈ ([(x, n)] : List (Str × Addr)), n ≤ p.2) ∧ (∀ p ∈ ([(x, n)] : List (Str × Addr)), f p.1 ≠ some .local) :=
  ⟨List.nodup_cons.mpr ⟨List.not_mem_nil, .nil⟩, List.nodup_cons.mpr ⟨List.not_mem_nil, .nil⟩, List.forall_mem_cons.mpr ⟨Nat.le_refl n, List.forall_mem_nil _⟩, List.forall_mem_cons.mpr ⟨h1, List.forall_mem_nil _⟩⟩
theorem len2 {vs : List Value} (h : vs.length = 2) : ∃ a b, vs = [a, b] := arity2 (P := fun vs => ∃ a b, vs = [a, b]) (fun a b => ⟨a, b, rfl⟩) vs h
theorem len3 {vs : List Value} (h : vs.length = 3) : ∃ a b c, vs = [a, b, c] := arity3 (P := fun vs => ∃ a b c, vs = [a, b, c]) (fun a b c => ⟨a, b, c, rfl⟩) vs h
theorem len4 {vs : List Value} (h : vs.length = 4) : ∃ a b c d, vs = [a, b, c, d] := arity4 (P := fun vs => ∃ a b c d, vs = [a, b, c, d]) (fun a b c d => ⟨a, b, c, d, rfl⟩) vs h
theorem Ex.compL {px pos : Pos} {x : Str} {elt iter : Expr} {scope : Scope} {cl : List (Str × Addr)} {vs : List Value} {P : Value → ALed → Prop} {ax : Addr} (hclos : closureFor scope (c.env F) = pure cl) (hcell : (scope.names.all fun y => !(y.2 == .cell)) = true) (hkind : scope.kind = .function) (hnames : (scope.names.all fun y => !(y.2 == .local) || scope.names.lookup y.1 == some .local) = true) (hx : scope.names.lookup x = some .local) (hx2 : isLoc (cmF scope F) x = true)
    (hs : ∀ x, foldedSetIterable iter (c.env F) x = pure x) (J : List Value → List Value → ALed → Prop) (he : Ev F lev c lo led iter (.ref ax)) (R : Rem (ax, .list vs) led led2) (hz : vs.length ≤ 100000) (hJ : J vs [] led2)
    (turn : ∀ o, CmTurn F c scope cl elt x J [(ax, o)]) (fin : ∀ D ys led, J [] ys led → P (.ref D) ((D, .list ys) :: (ax, .list vs) :: led)) :
    Ex F lev c lo led (.ListComp elt [⟨.Name x px, iter, [], 0⟩] scope pos) P := Ex.comp hclos hcell hkind hnames hx hx2 hs fun ok s S E => he ok s S _ _ fun v' s' q S' => by
  cases q.ref_inv
  exact cm_list J R hz hJ (fun o => (turn o).C) fin S'
theorem Ex.perm {e : Expr} {P : Value → ALed → Prop} (h : Ex F lev c lo led e fun v l => ∃ l2 r, Split l l2 r ∧ P v l2) : Ex F lev c lo led e P := fun ok s S E =>
  wpAny_mono (h ok s S E) (fun _ _ ⟨v, l, q, S', l2, r, Sp, k⟩ => ⟨v, l2, q, (S'.split Sp).front, k⟩) fun _ _ x => x
end
end
section
open PySem PySem.W PySem.Calls PyProof.Rows PySem.Spec
theorem cells0 {f : Str → Option NameKind} {n : Nat} : (([] : List (Str × Addr)).map (·.2)).Nodup ∧ (([] : List (Str × Addr)).map (·.1)).Nodup ∧ (∀ p ∈ ([] : List (Str × Addr)), n ≤ p.2) ∧ (∀ p ∈ ([] : List (Str × Addr)), f p.1 ≠ some .local) := ⟨List.nodup_nil, List.nodup_nil, List.forall_mem_nil _, List.forall_mem_nil _⟩
section
variable {F : Fn} {lev : Nat} {c : Cx} {lo : Lo} {led : ALed} {Φ : Fl} {rest : List Stmt} {pos : Pos}
theorem X.iteJ {t : Expr} {a b : List Stmt} {p : Bool} {J : Lo → ALed → Prop} (h : Ts F lev c lo led t p) (h1 : p = true → X F lev c { Φ with next := J } lo led a) (h2 : p = false → X F lev c { Φ with next := J } lo led b) (k : ∀ lo led, J lo led → X F lev c Φ lo led rest) : X F lev c Φ lo led (.If t a b pos :: rest) :=
  X.iteB h (fun e ok s S E => wpAny_mono (h1 e ok s S E) (fun f s' h' => by
    cases f with
    | next => obtain ⟨lo', led', S', hj⟩ := h'; exact ⟨lo', led', S', k _ _ hj⟩
    | brk => exact h'
    | cont => exact h'
    | ret v => exact h') fun _ _ x => x) fun e ok s S E => wpAny_mono (h2 e ok s S E) (fun f s' h' => by
    cases f with
    | next => obtain ⟨lo', led', S', hj⟩ := h'; exact ⟨lo', led', S', k _ _ hj⟩
    | brk => exact h'
    | cont => exact h'
    | ret v => exact h') fun _ _ x => x
theorem X.iteK {t : Expr} {a b : List Stmt} {p : Bool} (J : ALed → Prop) (h : Ts F lev c lo led t p) (h1 : p = true → X F lev c { Φ with next := fun lo' led => lo' = lo ∧ J led } lo led a) (h2 : p = false → X F lev c { Φ with next := fun lo' led => lo' = lo ∧ J led } lo led b) (k : ∀ led, J led → X F lev c Φ lo led rest) : X F lev c Φ lo led (.If t a b pos :: rest) :=
  X.iteJ h h1 h2 (by rintro lo' led ⟨rfl, hj⟩; exact k led hj)
theorem X.compR {px py pp p1 p2 pos2 : Pos} {x y : Str} {elt e : Expr} {scope : Scope} {cl : List (Str × Addr)} (hsw : swapsWith (.ListComp elt [⟨.Name x px, .Call (.Name "range" pp) [e] [] p1, [], 0⟩] scope pos2) (some (.Name y py)) p2.line (c.env F) = pure true) (hclos : closureFor scope (c.env F) = pure cl) (hcell : (scope.names.all fun y => !(y.2 == .cell)) = true) (hkind : scope.kind = .function) (hnames : (scope.names.all fun y => !(y.2 == .local) || scope.names.lookup y.1 == some .local) = true) (hx : scope.names.lookup x = some .local) (hx2 : isLoc (cmF scope F) x = true)
    (hs : ∀ x, foldedSetIterable (.Call (.Name "range" pp) [e] [] p1) (c.env F) x = pure x) (J : List Value → List Value → ALed → Prop) (hst : noStar e = true) (hn : nsIn (Mine.fr0.heap_1 c.w.params) mainGlobals "range" = some Option.none) (hg : isGlob F "range" = true)
    (he : Ex F lev c lo led e fun v led1 => ∃ (n : Nat) (t : Tok), v = .int n t ∧ n ≤ 1000 ∧ J (rangeVs n) [] led1) (turn : CmTurnC F lev c scope cl elt x J []) (fin : ∀ D ys led, J [] ys led → ∃ lo', SetL y (.ref D) lo lo' ∧ X F lev c Φ lo' ((D, .list ys) :: led) rest) :
    X F lev c Φ lo led (.Assign [.Name y py] (.ListComp elt [⟨.Name x px, .Call (.Name "range" pp) [e] [] p1, [], 0⟩] scope pos2) p2 :: rest) :=
  X.comp hsw hclos hcell hkind hnames hx hx2 hs fun ok s S E => cm_range J hst hn hg ok S he turn fin
theorem DenL.sub {w : World} {led : ALed} {cl : Led} (D : DenL w led cl) : (led.map (·.1)).Sublist (cl.map (·.1)) := by
  induction D with
  | nil => exact .slnil
  | cons d _ ih =>
    rw [List.map_cons, List.map_append]
    cases d <;> first | exact .cons₂ _ (.cons _ ih) | exact .cons₂ _ ih
theorem X.nd {body : List Stmt} (h : (led.map (·.1)).Nodup → X F lev c Φ lo led body) : X F lev c Φ lo led body := fun ok s S => by
  have S0 := S
  obtain ⟨sm, lk, m, cl, Fm, hlo, D, N, nd⟩ := S0
  exact h (nd.sublist D.sub) ok s S
end
end
open PySem PySem.W PySem.Calls PyProof.Rows PySem.Spec
section
variable {F : Fn} {lev : Nat} {c : Cx} {lo : Lo} {led : ALed} {a : Expr} {l : Addr} {t : Tok} {v0 v1 v2 v3 : Value} {r : List Value} {pos p2 : Pos}
theorem Ev.t0 (he : Ev F lev c lo led a (.ref l)) (hm : (l, AO.tup (v0 :: r)) ∈ led) : Ev F lev c lo led (.Subscript a (.Constant (.int 0) t p2) pos) v0 := Ev.titem (n := 0) he Ev.int hm rfl rfl
theorem Ev.t1 (he : Ev F lev c lo led a (.ref l)) (hm : (l, AO.tup (v0 :: v1 :: r)) ∈ led) : Ev F lev c lo led (.Subscript a (.Constant (.int 1) t p2) pos) v1 := Ev.titem (n := 1) he Ev.int hm rfl rfl
theorem Ev.t2 (he : Ev F lev c lo led a (.ref l)) (hm : (l, AO.tup (v0 :: v1 :: v2 :: r)) ∈ led) : Ev F lev c lo led (.Subscript a (.Constant (.int 2) t p2) pos) v2 := Ev.titem (n := 2) he Ev.int hm rfl rfl
theorem Ev.t3 (he : Ev F lev c lo led a (.ref l)) (hm : (l, AO.tup (v0 :: v1 :: v2 :: v3 :: r)) ∈ led) : Ev F lev c lo led (.Subscript a (.Constant (.int 3) t p2) pos) v3 := Ev.titem (n := 3) he Ev.int hm rfl rfl
end
local macro_rules | `(tactic| walk_at "h_ev2") => `(tactic| first
  | ((with_reducible refine' Ev.t0 ?e ?m); (case e => walk_at "h_ev"); (case m => walk_at "h_mem"))
  | ((with_reducible refine' Ev.t1 ?e ?m); (case e => walk_at "h_ev"); (case m => walk_at "h_mem"))
  | ((with_reducible refine' Ev.t2 ?e ?m); (case e => walk_at "h_ev"); (case m => walk_at "h_mem"))
  | ((with_reducible refine' Ev.t3 ?e ?m); (case e => walk_at "h_ev"); (case m => walk_at "h_mem")))
section
open PySem PySem.W PySem.Calls PyProof.Rows PySem.Spec PyProof.V
theorem X.retP {F : Fn} {lev : Nat} {c : Cx} {lo : Lo} {led : ALed} {Φ : Fl} {rest : List Stmt} {e : Expr} {pos : Pos} (h : Ex F lev c lo led e fun v l => ∃ l2 r, Split l l2 r ∧ Φ.ret v l2) : X F lev c Φ lo led (.Return (some e) pos :: rest) := X.retE (Ex.perm h)
mutual
inductive AD (led : ALed) : Value → PyData → Prop
  | int {i t} : AD led (.int i t) (.int i)
  | bool {b} : AD led (.bool b) (.bool b)
  | list {a vs ds} : (a, AO.list vs) ∈ led → ADs led vs ds → AD led (.ref a) (.list ds)
  | tup {a vs ds} : (a, AO.tup vs) ∈ led → ADs led vs ds → AD led (.ref a) (.tuple ds)
inductive ADs (led : ALed) : List Value → List PyData → Prop
  | nil : ADs led [] []
  | cons {v d vs ds} : AD led v d → ADs led vs ds → ADs led (v :: vs) (d :: ds)
end
theorem ads_iv {led : ALed} : ∀ ns : List Int, ADs led (iv ns) (ns.map PyData.int)
  | [] => .nil
  | _ :: r => .cons .int (ads_iv r)
section
variable {F : Fn} {lev : Nat} {c : Cx} {lo : Lo} {led : ALed} {s : Shared}
mutual
theorem AD.reads (S : St F c lo led s) : ∀ {v d}, AD led v d → ∀ {v'}, VEq v v' → ∃ as, Reads s.heap v' d as
  | _, _, .int, _, q => by obtain ⟨t, rfl⟩ := q.int_inv; exact ⟨_, .int _ _⟩
  | _, _, .bool, _, q => by cases q; exact ⟨_, .bool _⟩
  | _, _, .list hm h, _, q => by
    cases q.ref_inv
    obtain ⟨ws, n, g1, g2⟩ := S.list hm
    obtain ⟨as, r⟩ := ADs.reads S h g2
    exact ⟨_, .list g1 rfl rfl r⟩
  | _, _, .tup hm h, _, q => by
    cases q.ref_inv
    obtain ⟨ws, g1, g2⟩ := S.tup hm
    obtain ⟨as, r⟩ := ADs.reads S h g2
    exact ⟨_, .tuple g1 rfl rfl r⟩
theorem ADs.reads (S : St F c lo led s) : ∀ {vs ds}, ADs led vs ds → ∀ {vs'}, VsEq vs vs' → ∃ as, ReadsAll s.heap vs' ds as
  | _, _, .nil, _, q => by cases q; exact ⟨_, .nil⟩
  | _, _, .cons h1 h2, _, q => by
    cases q with
    | cons q1 q2 =>
      obtain ⟨as, r⟩ := AD.reads S h1 q1
      obtain ⟨bs, r'⟩ := ADs.reads S h2 q2
      exact ⟨_, .cons r r'⟩
end
theorem Ok.units64 (ok : Ok F lev c) (h : 4 ≤ lev) : (c.A F).units + 64 < cLine := by
  have := ok.u
  show c.un + 64 < _
  omega
theorem Cmp.eqD {a b : Value} {d e : PyData} {p : Bool} (h1 : AD led a d) (h2 : AD led b e) (s1 : SeqAt.shaped d = true) (s2 : SeqAt.shaped e = true) (hl : 4 ≤ lev) (hp : PyData.eqv d e = p) : Cmp F lev c lo led .Eq a b p := fun ok s a' b' q1 q2 S Q E k => by
  obtain ⟨_, r1⟩ := h1.reads S q1
  obtain ⟨_, r2⟩ := h2.reads S q2
  exact eq_dataH r1 r2 s1 s2 (ok.units64 hl) (hp ▸ k _ S)
theorem Cmp.neD {a b : Value} {d e : PyData} {p : Bool} (h1 : AD led a d) (h2 : AD led b e) (s1 : SeqAt.shaped d = true) (s2 : SeqAt.shaped e = true) (hl : 4 ≤ lev) (hp : PyData.eqv d e = p) : Cmp F lev c lo led .NotEq a b (!p) := fun ok s a' b' q1 q2 S Q E k => by
  obtain ⟨_, r1⟩ := h1.reads S q1
  obtain ⟨_, r2⟩ := h2.reads S q2
  exact ne_dataH r1 r2 s1 s2 (ok.units64 hl) (hp ▸ k _ S)
theorem canLayI : ∀ ns : List Int, PyData.canLayAll0 (ns.map PyData.int) = true
  | [] => rfl
  | _ :: r => canLayI r
theorem depthI : ∀ ns : List Int, PyData.depthAll (ns.map PyData.int) = 0
  | [] => rfl
  | _ :: r => (Nat.max_eq_right (Nat.zero_le _)).trans (depthI r)
theorem shapedI (ns : List Int) : SeqAt.shaped (.list (ns.map PyData.int)) = true := by
  show (PyData.canLayAll0 _ && decide (PyData.depthAll _ + 1 ≤ 64)) = true
  rw [canLayI, depthI]; rfl
end
end
section
open PySem PySem.W PySem.Calls PyProof.Rows PySem.Spec PyProof.V
section
variable {F : Fn} {lev : Nat} {c : Cx} {lo : Lo} {led : ALed} {l r a b : Expr} {es : List Expr} {pos : Pos} {op : CmpOp} {i j : Int} {t u : Tok} {p : Bool} {P : Value → ALed → Prop}
theorem Opn.addI (k : P (.int (i + j) 0) led) : Opn F lev c lo led .Add (.int i t) (.int j u) P := fun ok s v' u' S q1 q2 E => by
  obtain ⟨t1, rfl⟩ := q1.int_inv
  obtain ⟨t2, rfl⟩ := q2.int_inv
  exact add_int ⟨_, led, .int _ _ _, S.toks _, k⟩
theorem Ex.cmp (h : Ex F lev c lo led l fun v1 led1 => Ex F lev c lo led1 r fun v2 led2 => ∃ p, Cmp F lev c lo led2 op v1 v2 p ∧ P (.bool p) led2) (hm : behindInMarks op r = false) : Ex F lev c lo led (.Compare l [op] [r] pos) P := fun ok s S E =>
  wpAny_Compare1 (wpAny_mono (h ok s S E) (fun a' s1 ⟨v1, led1, q1, S1, h1⟩ => wpAny_mono (h1 ok s1 S1 E) (fun b' s2 ⟨v2, led2, q2, S2, p, hc, k⟩ => hc ok s2 a' b' q1 q2 S2 _ _ fun s3 S3 => ⟨_, led2, .refl _, S3, k⟩) fun _ _ x => x) fun _ _ x => x) hm
theorem Ex.and (h1 : Ev F lev c lo led a (.bool p)) (h2 : p = true → Ex F lev c lo led (.BoolOp .And (b :: es) pos) P) (h3 : p = false → P (.bool false) led) : Ex F lev c lo led (.BoolOp .And (a :: b :: es) pos) P := fun ok s S E =>
  BoolOp_and (h1 ok s S _ _ fun v' s1 q1 S1 => by
    cases q1.bool_inv
    refine wpAny_truthy_bool ?_
    cases p with
    | false => exact ⟨_, led, .refl _, S1, h3 rfl⟩
    | true => exact h2 rfl ok s1 S1 E)
theorem Ev.toI {e : Expr} (h : Ev F lev c lo led e (.int i t)) (k : i = j) : Ev F lev c lo led e (.int j t) := k ▸ h
theorem Ex.bone {op : BoolOp} (h : Ex F lev c lo led a P) : Ex F lev c lo led (.BoolOp op [a] pos) P := h
inductive SetXs (F : Fn) (lev : Nat) (c : Cx) : List Expr → List Value → Lo → ALed → Lo → ALed → Prop
  | nil {l1 d1} : SetXs F lev c [] [] l1 d1 l1 d1
  | attr {t : Expr} {a : Str} {q r z zs l1 d1 d2 l3 d3} : Asg F lev c l1 d1 (.Attribute t a q) z l1 d2 → SetXs F lev c r zs l1 d2 l3 d3 → SetXs F lev c (.Attribute t a q :: r) (z :: zs) l1 d1 l3 d3
theorem SetXs.len {es : List Expr} {vs : List Value} {lo lo' : Lo} {led led' : ALed} (h : SetXs F lev c es vs lo led lo' led') : es.length = vs.length := by
  induction h with
  | nil => rfl
  | attr _ _ ih => rw [List.length_cons, List.length_cons, ih]
theorem SetXs.each {es : List Expr} {vs : List Value} {lo lo' : Lo} {led led' : ALed} (h : SetXs F lev c es vs lo led lo' led') (env : Env) : (assignEach es env).length = es.length ∧ (assignEach es env).findIdx? (·.1) = Option.none := by
  induction h with
  | nil => exact ⟨rfl, rfl⟩
  | @attr t a q r z zs l1 d1 d2 l3 d3 _ _ ih =>
    have e : assignEach (.Attribute t a q :: r) env = (false, assign (.Attribute t a q) env) :: assignEach r env := rfl
    rw [e]
    refine ⟨by simp [ih.1], ?_⟩
    rw [List.findIdx?_cons]
    simp [ih.2]
theorem SetXs.run {es : List Expr} {vs : List Value} {lo lo' : Lo} {led led' : ALed} (h : SetXs F lev c es vs lo led lo' led') (ok : Ok F lev c) : ∀ {vs' : List Value} {s : Shared}, VsEq vs vs' → St F c lo led s → ∀ {Q : Unit → Shared → Prop} {E}, (∀ s', St F c lo' led' s' → Q () s') →
    wpAny (model PG c.w) (c.A F) (assignInOrder ((assignEach es (c.env F)).map (·.2)) vs') Q E s := by
  induction h with
  | nil => intro vs' s q S Q E k; cases q; exact assignInOrder_nil (k _ S)
  | @attr t a q r z zs l1 d1 d2 l3 d3 h1 _ ih =>
    intro vs' s q S Q E k
    cases q with
    | cons q1 q2 =>
      rw [show assignEach (.Attribute t a q :: r) (c.env F) = (false, assign (.Attribute t a q) (c.env F)) :: assignEach r (c.env F) from rfl]
      exact assignInOrder_cons (h1 ok s _ S q1 _ _ fun s' S' => ih q2 S' k)
theorem Asg.tupX {d : Addr} {n : Nat} {es : List Expr} {vs : List Value} {lo' : Lo} {led' : ALed} (hm : (d, AO.tup vs) ∈ led) (h : SetXs F lev c es vs lo led lo' led') : Asg F lev c lo led (.Tuple es n pos) (.ref d) lo' led' := fun ok s v' S q Q E k => by
  cases q.ref_inv
  obtain ⟨ws, g1, g2⟩ := S.tup hm
  obtain ⟨z1, z2⟩ := h.each (c.env F)
  refine assign_Tuple_tuple (items := ws.toArray) rfl ⟨_, g1, rfl, _, rfl⟩ (by rw [z1, h.len, g2.length, List.size_toArray]) z2 fun h' he => ?_
  exact h.run ok g2 (S.push he) k
theorem X.assignU {ts : List Expr} {n : Nat} {e : Expr} {p : Pos} {rest : List Stmt} {Φ : Fl} (h : Ex F lev c lo led e fun v led1 => ∃ lo' led2, Asg F lev c lo led1 (.Tuple ts n p) v lo' led2 ∧ X F lev c Φ lo' led2 rest) (hs : ∀ env : Env, swapsWithSole [.Tuple ts n p] e pos.line env = pure false) (hw : swappedStores [.Tuple ts n p] e (c.env F) = pure Option.none) :
    X F lev c Φ lo led (.Assign [.Tuple ts n p] e pos :: rest) :=
  X.step fun ok s S E => Assign_Tuple (wpAny_mono (h ok s S E) (fun v' s' ⟨v, led1, q, S1, lo', led2, ha, k⟩ => ha ok s' v' S1 q _ _ fun s2 S2 => ⟨_, _, S2, k⟩) fun _ _ x => x) (hs _) hw
theorem X.wk {Φ : Fl} {J : Lo → ALed → Prop} {body rest : List Stmt} (h : X F lev c { Φ with next := J } lo led body) (k : ∀ lo led, J lo led → X F lev c Φ lo led rest) : X F lev c (Φ.then F lev c rest) lo led body := fun ok s S E => wpAny_mono (h ok s S E) (fun f s' h' => by
    cases f with
    | next => obtain ⟨lo', led', S', hj⟩ := h'; exact ⟨lo', led', S', k _ _ hj⟩
    | brk => exact h'
    | cont => exact h'
    | ret v => exact h') fun _ _ x => x
theorem X.iteEK {Φ : Fl} {x y rest : List Stmt} {t : Expr} (J : ALed → Prop) (h : TsE F lev c lo led t fun p led1 => (p = true → X F lev c { Φ with next := fun lo' led => lo' = lo ∧ J led } lo led1 x) ∧ (p = false → X F lev c { Φ with next := fun lo' led => lo' = lo ∧ J led } lo led1 y)) (k : ∀ led, J led → X F lev c Φ lo led rest) : X F lev c Φ lo led (.If t x y pos :: rest) :=
  have w : ∀ lo' led', (lo' = lo ∧ J led') → X F lev c Φ lo' led' rest := by rintro lo' led ⟨rfl, hj⟩; exact k led hj
  X.iteE fun ok s S E => wpAny_mono (h ok s S E) (fun p s' ⟨led1, S', h1, h2⟩ => ⟨led1, S', fun e => (h1 e).wk w, fun e => (h2 e).wk w⟩) fun _ _ x => x
end
end
section
open PySem PySem.W PySem.Calls PyProof.Rows PySem.Spec
open PySem.AutoSeq1 (wpAny_loadPart')
set_option maxHeartbeats 1000000
theorem tup_at {h h' : Heap} {a : Addr} {xs : Array Value} (x : h.IsTuple a xs) (e : ∀ o, h.get? a = some o → h'.get? a = some o) : h'.IsTuple a xs := let ⟨o, ho, r⟩ := x; ⟨o, e o ho, r⟩
theorem enum_newT (l : Addr) (xs : Array Value) (n : Nat) (dct : Option Addr) (sl : Array (Option Value)) :
    Meets (Builtin.«enumerate.__new__» ⟨[.type "enumerate", .ref l], []⟩) (fun _ R s => s.heap.get? l = some { cls := .type "tuple", dict := dct, data := .seq xs n, slots := sl } ∧
      R (.ok (.ret (.ref (s.heap.push { cls := .type "tuple_iterator", data := .fields #[.ref l, .int 0 0] }).objs.size)))
        { s with heap := (s.heap.push { cls := .type "tuple_iterator", data := .fields #[.ref l, .int 0 0] }).push { cls := .type "enumerate", data := .fields #[.none, .bool false, .ref s.heap.objs.size, rawInt 0, .none, .none] } }) :=
  .of_wp fun prog w A R s h => by
    obtain ⟨hp, g, d, tk, os⟩ := s
    obtain ⟨hl, h⟩ := h
    have hsub := sub_enumerate
    have hL : Heap.IsTuple (Shared.heap ⟨hp, g, d, tk, os⟩) l xs := ⟨_, hl, rfl, n, rfl⟩
    wp_walk using wpAny_loadPart' hl
    refine wpAny_stack_any fun st => wpAny_pure ?_
    split
    · rename_i c _ _ _ _ _
      cases (c == Value.type "enumerate") <;>
      · wp_walk using wpAny_loadPart' hl, wpAny_pyIter_tuple hL
        exact ⟨_, rfl, h⟩
    · wp_walk using wpAny_loadPart' hl, wpAny_pyIter_tuple hL
      exact ⟨_, rfl, h⟩
section
variable {prog : Program} {w : World} {A : Around} {E : Value → Shared → Prop} {s : Shared}
theorem call_enumT {l : Addr} {xs : Array Value} {Q : Value → Shared → Prop} (hL : s.heap.IsTuple l xs)
    (h : ∀ h', IsEnum h' (s.heap.objs.size + 1) s.heap.objs.size 0 .none → h'.IsTupleIter s.heap.objs.size l 0 →
      (∀ b o, s.heap.get? b = some o → h'.get? b = some o) → Q (.ref (s.heap.objs.size + 1)) { s with heap := h' }) :
    wpAny (model prog w) A (call (.type "enumerate") [.ref l]) Q E s := by
  obtain ⟨⟨c, dct, dt, sl⟩, hl, hc, n, hd⟩ := hL
  replace hc : c = .type "tuple" := hc
  replace hd : dt = .seq xs n := hd
  subst hc hd
  refine callType_new F.called_enumerate (by decide) (F.typeCall_enumerate_1 _) (F.newCall_enumerate_1 _) (fun obj => F.args_object_init_2 obj _) F.entry_enumerate_new (enum_newT l xs n dct sl) ⟨hl, ?_⟩
  generalize hg : s.heap.push { cls := .type "tuple_iterator", data := .fields #[.ref l, .int 0 0] } = g1
  have hz : g1.objs.size = s.heap.objs.size + 1 := by rw [← hg, Heap.size_push]
  have k1 : g1.IsTupleIter s.heap.objs.size l 0 := by rw [← hg]; exact ⟨_, Heap.get?_push_size _ rfl, rfl, rfl⟩
  have k2 : ∀ b o, s.heap.get? b = some o → g1.get? b = some o := fun b o e => by rw [← hg]; exact Heap.get?_push_of_some _ e
  have he : IsEnum (g1.push { cls := .type "enumerate", data := .fields #[.none, .bool false, .ref s.heap.objs.size, rawInt 0, .none, .none] }) (s.heap.objs.size + 1) s.heap.objs.size 0 .none := by
    rw [← hz]; exact Heap.get?_push_size _ rfl
  show _ ∧ _
  rw [hz]
  obtain ⟨oi, a1, a2⟩ := k1
  exact ⟨⟨_, he, rfl⟩, h _ he ⟨oi, Heap.get?_push_of_some _ a1, a2⟩ fun b o x => Heap.get?_push_of_some _ (k2 b o x)⟩
theorem nextOf_tup {it t : Addr} {i : Nat} {xs : Array Value} {x : Value} {Q : Value → Shared → Prop} (hit : s.heap.IsTupleIter it t i) (hl : s.heap.IsTuple t xs) (hx : xs[i]? = some x)
    (hQ : ∀ h', h'.IsTupleIter it t (i + 1) → Heap.SameBut it s.heap h' → Q x { s with heap := h' }) : wpAny (model prog w) A (Builtin.SmallTypes.nextOf (.ref it)) Q E s := by
  obtain ⟨o, ho, hc, hd⟩ := id hit
  obtain ⟨ol, hol, _, nl, hdl⟩ := hl
  unfold Builtin.SmallTypes.nextOf
  refine wpAny_bind (wpAny_callSpecial?_slot (name := Str.ofString "__next__") hit.typeIs F.slot_tuple_iterator_next (wpAny_call_entry F.slot_tuple_iterator_next hit.typeIs F.entry_tuple_iterator_next ?_ (F.args_tuple_iterator_next_1 _)))
  show wpAny _ _ (field (.ref it) 0 >>= _) _ _ s
  refine wpAny_bind (wpAny_field ho hd (x := .ref t) rfl ?_)
  show wpAny _ _ (if (Value.ref t == Value.none) = true then _ else _) _ _ s
  rw [if_neg (show ¬ ((Value.ref t == Value.none) = true) from Bool.false_ne_true)]
  show wpAny _ _ (field (.ref it) 1 >>= _) _ _ s
  refine wpAny_bind (wpAny_field ho hd (x := .int i 0) rfl ?_)
  show wpAny _ _ (seqItems? (.ref t) >>= _) _ _ s
  refine wpAny_bind (wpAny_seqItems hol hdl ?_)
  simp only [Int.toNat_natCast, hx]
  refine wpAny_bind (wpAny_setField ho hd (by simp) (wpAny_pure ⟨x, rfl, wpAny_pure (hQ _ ?_ (Heap.SameBut.update ..))⟩))
  exact ⟨_, Heap.get?_update_self _ ho (Obj.isFreed_of_fields (Obj.data_mapFields hd _)), (Obj.cls_mapFields ..).trans hc, by
    rw [Obj.data_mapFields hd]; simp [rawInt]⟩
theorem nextOf_tupE {it t : Addr} {i : Nat} {xs : Array Value} {Q : Value → Shared → Prop} (hh : A.handled = none) (hit : s.heap.IsTupleIter it t i) (hl : s.heap.IsTuple t xs) (hx : xs[i]? = none)
    (hE : ∀ h' e, Heap.ExtBut it s.heap h' → (∃ o, h'.get? e = some o ∧ o.cls = .type "StopIteration") → E (.ref e) { s with heap := h' }) : wpAny (model prog w) A (Builtin.SmallTypes.nextOf (.ref it)) Q E s := by
  obtain ⟨o, ho, hc, hd⟩ := id hit
  obtain ⟨ol, hol, _, nl, hdl⟩ := hl
  unfold Builtin.SmallTypes.nextOf
  refine wpAny_bind (wpAny_callSpecial?_slot (name := Str.ofString "__next__") hit.typeIs F.slot_tuple_iterator_next (wpAny_call_entry F.slot_tuple_iterator_next hit.typeIs F.entry_tuple_iterator_next ?_ (F.args_tuple_iterator_next_1 _)))
  show wpAny _ _ (field (.ref it) 0 >>= _) _ _ s
  refine wpAny_bind (wpAny_field ho hd (x := .ref t) rfl ?_)
  show wpAny _ _ (if (Value.ref t == Value.none) = true then _ else _) _ _ s
  rw [if_neg (show ¬ ((Value.ref t == Value.none) = true) from Bool.false_ne_true)]
  show wpAny _ _ (field (.ref it) 1 >>= _) _ _ s
  refine wpAny_bind (wpAny_field ho hd (x := .int i 0) rfl ?_)
  show wpAny _ _ (seqItems? (.ref t) >>= _) _ _ s
  refine wpAny_bind (wpAny_seqItems hol hdl ?_)
  simp only [Int.toNat_natCast, hx]
  refine wpAny_bind (wpAny_rule (wpAny_bind (wpAny_setField ho hd (by simp) ?_)))
  show wpAny _ _ (newExc (.type "StopIteration") [] >>= _) _ _ _
  refine wpAny_bind ?_
  simp only [newExc, newTuple]
  refine wpAny_bind (wpAny_newObj_type ?_ (by size_fits))
  refine wpAny_bind (m := firstArgMember _ _) (wpAny_of_eq (a := Value.none) (by first | rfl | (simp only [firstArgMember]; rfl)) ?_)
  refine wpAny_newObj_type ?_ (by size_fits)
  simp only [raiseNew]
  refine wpAny_bind (wpAny_handled ?_)
  first | rw [show A.in1.handled = none from hh] | rw [hh]
  refine wpAny_bind (wpAny_pure (wpAny_throw ?_))
  exact hE _ _ (((Heap.SameBut.update ..).extBut.push _).push _) ⟨_, Heap.get?_push_size _ rfl, rfl⟩
theorem Draws.tupM (hh : A.handled = none) (it l : Addr) (hne : l ≠ it) (xs : Array Value) :
    Draws prog w A it [it, l] xs.size (fun i v => xs[i]? = some v) (fun i h => h.IsTupleIter it l i ∧ h.IsTuple l xs) where
  live := fun _ _ st => let ⟨o, ho, _⟩ := st.1; ⟨o, ho⟩
  frame := fun _ _ _ st hk => ⟨st.1.at fun o e => hk it (by simp) o e, tup_at st.2 fun o e => hk l (by simp) o e⟩
  item := fun i s Q E hi st hQ => by
    refine nextOf_tup st.1 st.2 (x := xs[i]) (by simp [hi]) fun h' hit' hs' => ?_
    exact hQ _ h' s.toks (by simp [hi]) ⟨hit', st.2.extBut hs'.extBut hne⟩ hs'
  done := fun s Q E st hE => nextOf_tupE hh st.1 st.2 (by simp) hE
variable {h₀ : Heap} {env : Env} {elts : List PySem.Expr} {body : List Stmt} {Q : Flow → Shared → Prop}
theorem enumT_turns {k : Nat} {pos : Pos} {l : Addr} {lo : Obj} {vs : List Value} {n : Nat} {m₀ : Str → Option Value} {news : List (Addr × Obj)}
    (hh : A.handled = none) (F : Fr h₀ env.locals s.heap m₀) (N : News h₀ env.locals s.heap news) (hm : (l, lo) ∈ news) (hc : lo.cls = .type "tuple") (hd : lo.data = .seq vs.toArray n)
    (rest₀ : ∀ I : Addr, (∀ p ∈ news, p.1 < I) → ItemsRest prog w A E h₀ env (.Tuple elts k pos) body Q s [(I + 1, "enumerate"), (I, "tuple_iterator")] [(l, lo)] (enumItems 0 vs) m₀ news) :
    wpAny (model prog w) A (call (.type "enumerate") [.ref l]) (fun xv s₁ => wpAny (model prog w) A (pyIter xv) (fun it s₂ => TurnsAt prog w A h₀ env (.Tuple elts k pos) body Q E it s₂) E s₁) E s := by
  have hax := N _ hm
  have hl : s.heap.IsTuple l vs.toArray := ⟨lo, hax.1, hc, n, hd⟩
  have hlt : @LT.lt Nat _ l s.heap.objs.size := Heap.lt_size hax.1
  have hLs : @LT.lt Nat _ env.locals s.heap.objs.size := F.ns.lt
  refine call_enumT hl fun h' hE hI hk => ?_
  refine wpAny_pyIter_enum hE ?_
  have D : Draws prog w A.in1 s.heap.objs.size [s.heap.objs.size, l] vs.toArray.size (fun i v => vs.toArray[i]? = some v) (fun i h => h.IsTupleIter s.heap.objs.size l i ∧ h.IsTuple l vs.toArray) := Draws.tupM (prog := prog) (w := w) (A := A.in1) hh s.heap.objs.size l (Nat.ne_of_lt hlt) vs.toArray
  refine ktu_core (tk0 := s.toks) (keep := [(l, lo)]) (KTurns.ofWalksU (WalksT.enumerateD D (s.heap.objs.size + 1) (Nat.succ_ne_self _) (fun hx => ?_) (List.mem_cons_self ..)).toU) (by simp [enumItems_length]) ?_ ?_ ?_ ?_ ?_ ?_ ?_ ?_ (F.keeps hk) (N.grown hk) (And.intro hm trivial) (rest₀ _ fun p hp => Heap.lt_size (N p hp).1)
  · rcases List.mem_cons.mp hx with e | hx
    · exact Nat.succ_ne_self _ e
    · exact absurd (List.mem_singleton.mp hx) (Nat.ne_of_gt (Nat.lt_succ_of_lt hlt))
  · rintro i v h ⟨T, vals, rfl, ⟨t, x, hx, rfl⟩, hT⟩
    refine ⟨_, enumItems_get vs 0 i (v := x) (by simpa using hx), T, t, rfl, ?_⟩
    show IsTup h T #[.int ((0 + i : Nat) : Int) t, x]
    rw [Nat.zero_add]
    exact hT
  · rintro i h ⟨⟨old, he⟩, ⟨oi, hoi, hic, _⟩, _⟩
    obtain ⟨oe, h1, h2⟩ : ∃ oe : Obj, h.get? (s.heap.objs.size + 1) = some oe ∧ oe.cls = .type "enumerate" := ⟨_, he, rfl⟩
    refine ⟨[(s.heap.objs.size + 1, oe), (s.heap.objs.size, oi)], ⟨⟨rfl, h2⟩, ⟨rfl, hic⟩, trivial⟩, fun p hp => ?_⟩
    rcases List.mem_cons.mp hp with rfl | hp
    · exact h1
    · rw [List.mem_singleton.mp hp]; exact hoi
  · intro b hb
    have hb' : b = s.heap.objs.size + 1 ∨ b = s.heap.objs.size := by simpa using hb
    rcases hb' with rfl | rfl
    · exact ⟨by simp, ktu_new F (Nat.le_add_right _ _)⟩
    · exact ⟨by simp, ktu_new F (Nat.le_refl _)⟩
  · intro b hb; simpa using hb
  · intro b hb
    have hb' : b = s.heap.objs.size + 1 ∨ b = s.heap.objs.size ∨ b = l := by simpa using hb
    rcases hb' with rfl | rfl | rfl
    · exact .inl (by simp)
    · exact .inl (by simp)
    · exact .inr ⟨lo, by simp⟩
  · intro hI'
    have hb' : env.locals = s.heap.objs.size + 1 ∨ env.locals = s.heap.objs.size ∨ env.locals = l := by simpa using hI'
    rcases hb' with e | e | e
    · exact ktu_ne 1 hLs e
    · exact Nat.ne_of_lt hLs e
    · exact hax.2.1 e.symm
  · intro p hp hI'
    have hb' : p.1 = s.heap.objs.size + 1 ∨ p.1 = s.heap.objs.size := by simpa using hI'
    have hlp := Heap.lt_size (N p hp).1
    rcases hb' with e | e
    · exact ktu_ne 1 hlp e
    · exact Nat.ne_of_lt hlp e
  · exact ⟨⟨.none, hE⟩, hI, tup_at hl fun o e => hk l o e⟩
noncomputable def EnE (h₀ : Heap) (L : Addr) (I : Nat) (o1 o2 : Obj) (kp : Addr × Obj) (J : (Str → Option Value) → List (Addr × Obj) → Prop) (s₁ : Shared) (f : Flow) (s₂ : Shared) : Prop :=
  f = .next ∧ ∃ h' tk m' n', s₂ = { s₁ with heap := h', toks := tk } ∧ Fr h₀ L h' m' ∧ News h₀ L h' ((I + 1, o1) :: (I, o2) :: n') ∧ (∀ p ∈ n', p.1 ≠ I + 1 ∧ p.1 ≠ I) ∧ kp ∈ n' ∧ J m' n'
end
end
section
open PySem PySem.W PySem.Calls PyProof.Rows PySem.Spec
section
variable {prog : Program} {w : World} {A : Around} {E : Value → Shared → Prop} {s : Shared} {h₀ : Heap} {env : Env} {elts : List PySem.Expr} {body : List Stmt} {Q : Flow → Shared → Prop}
theorem enum_inv {k : Nat} {pos : Pos} {l : Addr} {lo : Obj} {vs : List Value} {n : Nat} {m₀ : Str → Option Value} {news : List (Addr × Obj)} (J : Nat → (Str → Option Value) → List (Addr × Obj) → Prop)
    (hh : A.handled = none) (F : Fr h₀ env.locals s.heap m₀) (N : News h₀ env.locals s.heap news) (hm : (l, lo) ∈ news) (hc : lo.cls = .type "tuple") (hd : lo.data = .seq vs.toArray n) (hJ : J 0 m₀ news)
    (turn : ∀ (i : Nat) (x : Value) (I : Nat) T t h tk o1 o2 m n', vs[i]? = some x → J i m n' → (l, lo) ∈ n' → (∀ p ∈ n', p.1 ≠ I + 1 ∧ p.1 ≠ I) → IsTup h T #[.int (i : Int) t, x] → Fr h₀ env.locals h m → News h₀ env.locals h ((I + 1, o1) :: (I, o2) :: n') →
      wpAny (model prog w) A (assign (.Tuple elts k pos) env (.ref T)) (fun _ s₂ => wpAny (model prog w) A (execs body env) (EnE h₀ env.locals I o1 o2 (l, lo) (J (i + 1)) { s with heap := h, toks := tk }) E s₂) E { s with heap := h, toks := tk })
    (done : ∀ m n' h tk, J vs.length m n' → Fr h₀ env.locals h m → News h₀ env.locals h n' → Q .next { s with heap := h, toks := tk }) :
    wpAny (model prog w) A (call (.type "enumerate") [.ref l]) (fun xv s₁ => wpAny (model prog w) A (pyIter xv) (fun it s₂ => TurnsAt prog w A h₀ env (.Tuple elts k pos) body Q E it s₂) E s₁) E s := by
  refine enumT_turns hh F N hm hc hd fun I hI => ?_
  have key : ∀ (r : List Value) (pre : List Value) (m : Str → Option Value) (n' : List (Addr × Obj)), vs = pre ++ r → J pre.length m n' → (l, lo) ∈ n' → (∀ p ∈ n', p.1 ≠ I + 1 ∧ p.1 ≠ I) →
      ItemsRest prog w A E h₀ env (.Tuple elts k pos) body Q s [(I + 1, "enumerate"), (I, "tuple_iterator")] [(l, lo)] (enumItems pre.length r) m n' := by
    intro r
    induction r with
    | nil =>
      intro pre m n' e hJ' _ _
      rw [List.append_nil] at e
      subst e
      exact ItemsRest.zero fun h tk F' N' => done m n' h tk hJ' F' N'
    | cons x r ih =>
      intro pre m n' e hJ' hk hoff
      refine ItemsRest.pair fun T t h tk hT F' => AllObj.cons fun o1 _ => AllObj.cons fun o2 _ => AllObj.nil fun N' => ?_
      have hx : vs[pre.length]? = some x := by rw [e]; simp
      refine wpAny_mono (turn pre.length x I T t h tk o1 o2 m n' hx hJ' hk hoff hT F' N') (fun _ s₂ p => wpAny_mono p (fun f s₃ p => ?_) fun _ _ e => e) fun _ _ e => e
      obtain ⟨rfl, h1, tk1, m1, n1, rfl, F1, N1, off1, hk1, hJ1⟩ := p
      refine ⟨h1, tk1, m1, n1, rfl, F1, N1, fun p hp q hq => ?_, ⟨hk1, trivial⟩, ?_⟩
      · rcases List.mem_cons.mp hq with rfl | hq
        · exact (off1 p hp).1
        · rw [List.mem_singleton.mp hq]; exact (off1 p hp).2
      · have := ih (pre ++ [x]) m1 n1 (by rw [e]; simp) (by rw [List.length_append]; exact hJ1) hk1 off1
        rw [List.length_append] at this
        exact this
  refine key vs [] m₀ news rfl hJ hm fun p hp => ?_
  have := hI p hp
  exact ⟨Nat.ne_of_lt (Nat.lt_succ_of_lt this), Nat.ne_of_lt this⟩
end
end
section
open PySem PySem.W PySem.Calls PyProof.Rows PySem.Spec PyProof.V PyProof
section
variable {F : Fn} {lev : Nat} {c : Cx} {lo lo' : Lo} {led led' led1 led2 : ALed} {Φ : Fl} {rest body : List Stmt} {e iter : Expr} {pos p : Pos} {es : List Expr} {vs : List Value} {P : Value → ALed → Prop}
theorem Ex.listX (ha : Exs F lev c lo led es fun vs led1 => vs.length ≤ 1000 ∧ ∀ d, P (.ref d) ((d, .list vs) :: led1)) : Ex F lev c lo led (.List es pos) P := fun ok s S E =>
  List_ (wpAny_mono (ha ok s S pos E) (fun vs' s' ⟨vs, led1, q', ⟨sm, lk, m, cl, Fm, hlo, D, N, nd⟩, hz, k⟩ => newList_K Fm N (fun l h' F' N' lt => ⟨_, _, .refl _, ⟨sm.upd h' _, lk, m, _, F', hlo, .cons (.list q') D, N', nodup_new (h := h') nd lt⟩, k l⟩)
    (by rw [← q'.length, sizeLine_eq]; exact Nat.le_trans hz (by decide))) fun _ _ x => x)
theorem X.iteEJ {x y : List Stmt} {t : Expr} (J : Lo → ALed → Prop) (h : TsE F lev c lo led t fun p led1 => (p = true → X F lev c { Φ with next := J } lo led1 x) ∧ (p = false → X F lev c { Φ with next := J } lo led1 y)) (k : ∀ lo led, J lo led → X F lev c Φ lo led rest) : X F lev c Φ lo led (.If t x y pos :: rest) :=
  X.iteE fun ok s S E => wpAny_mono (h ok s S E) (fun p s' ⟨led1, S', h1, h2⟩ => ⟨led1, S', fun e => (h1 e).wk k, fun e => (h2 e).wk k⟩) fun _ _ x => x
noncomputable abbrev flN : Fl := Fl.fn fun _ _ => False
inductive EnJ (F : Fn) (c : Cx) (ax : Addr) (vs' : List Value) (J : Nat → Lo → ALed → Prop) (i : Nat) (m : Str → Option Value) (n' : Led) : Prop
  | mk (lo : Lo) (led : ALed) (cl' : Led) (lk : LoOk F lo) (hlo : ∀ x v, (x, some v) ∈ lo → ∃ v', m x = some v' ∧ VEq v v') (hp : n'.Perm ((ax, { cls := .type "tuple", data := .seq vs'.toArray }) :: cl')) (D : DenL c.w led cl') (nd : (n'.map (·.1)).Nodup) (hJ : J i lo led)
theorem X.forEn {n1 n2 : Str} {q1 q2 tp p1 : Pos} {k : Nat} (vs : List Value) (J : Nat → Lo → ALed → Prop) (hs : noStar e = true) (hn : nsIn (Mine.fr0.heap_1 c.w.params) mainGlobals "enumerate" = some Option.none) (hg : isGlob F "enumerate" = true)
    (he : Ex F lev c lo led e fun v led1 => ∃ ax led2, v = .ref ax ∧ Rem (ax, AO.tup vs) led1 led2 ∧ J 0 lo led2)
    (hd : ∀ lo led, J vs.length lo led → X F lev c Φ lo led rest)
    (ht : ∀ i v I1 I2 ax o1 o2 o lo led, vs[i]? = some v → J i lo led → ∃ lo', SetTs [.Name n1 q1, .Name n2 q2] [.int i 0, v] lo lo' ∧ X F lev c (flN.turn [(I1, .obj o1), (I2, .obj o2), (ax, .obj o)] (J (i + 1))) lo' ((I1, .obj o1) :: (I2, .obj o2) :: (ax, .obj o) :: led) body)
    (hf : ∀ x, foldedSetIterable (.Call (.Name "enumerate" p) [e] [] p1) (c.env F) x = pure x) : X F lev c Φ lo led (.For (.Tuple [.Name n1 q1, .Name n2 q2] k tp) (.Call (.Name "enumerate" p) [e] [] p1) body [] pos :: rest) :=
  X.step fun ok s S E => by
    have S0 := S
    obtain ⟨_, _, m0, _, F0, _⟩ := S0
    refine wpAny_mono (E := fun _ _ => False) (For_turns (E := fun _ _ => False) F0 (callTX (P' := fun ws led1 => ∃ ax led2, ws = [.ref ax] ∧ Rem (ax, AO.tup vs) led1 led2 ∧ J 0 lo led2) ok hn rfl rfl hg (by simp [hs]) (Exs.cons hs (he.mono fun v l ⟨ax, l2, e1, e2, e3⟩ => Exs.nil ⟨ax, l2, by rw [e1], e2, e3⟩)) S fun ws ws' led1 s1 q S1 ⟨ax, led2, e1, R, hJ⟩ => ?_) hf PassesOwn.never) (fun _ _ x => x) fun _ _ x => x.elim
    subst e1
    obtain ⟨v', rfl, q1⟩ := q.one
    cases q1.ref_inv
    obtain ⟨sm, lk, m, cl, Fm, hlo, D, N, nd⟩ := S1
    obtain ⟨l, cr, d1, d2, hp⟩ := R.den D
    cases d1 with
    | @tup _ vs' qv =>
      refine enum_inv (Q := (Φ.then F lev c rest).post F c) (lo := { cls := .type "tuple", data := .seq vs'.toArray }) (vs := vs') (n := 0) (EnJ F c ax vs' J) rfl Fm N (hp.mem_iff.mpr (.head _)) rfl rfl ⟨lo, led2, cr, lk, hlo, hp, d2, nd, hJ⟩ ?_ ?_
      · rintro i x I T t h tk o1 o2 m' n' hx ⟨lo1, led3, cl', lk1, hlo1, hp1, D1, nd1, hJ1⟩ hmem off hT F1 N1
        obtain ⟨v, hv, hq⟩ : ∃ v, vs[i]? = some v ∧ VEq v x := by
          have hi : i < vs.length := by rw [qv.length]; exact (List.getElem?_eq_some_iff.mp hx).1
          obtain ⟨x', g1, g2⟩ := qv.get (List.getElem?_eq_getElem hi)
          rw [hx] at g1
          cases g1
          exact ⟨_, List.getElem?_eq_getElem hi, g2⟩
        obtain ⟨lo2, hS, hX⟩ := ht i v (I + 1) I ax o1 o2 { cls := .type "tuple", data := .seq vs'.toArray } lo1 led3 hv hJ1
        have nd2 : (((I + 1, o1) :: (I, o2) :: (ax, ({ cls := .type "tuple", data := .seq vs'.toArray } : Obj)) :: cl').map (·.1)).Nodup := by
          refine List.nodup_cons.mpr ⟨fun hm => ?_, List.nodup_cons.mpr ⟨fun hm => ?_, (hp1.map (·.1)).nodup_iff.mp nd1⟩⟩
          · rcases List.mem_cons.mp hm with e | hm
            · exact Nat.succ_ne_self _ e
            · obtain ⟨p, hp, e⟩ := List.mem_map.mp hm
              exact (off p (hp1.mem_iff.mpr hp)).1 e
          · obtain ⟨p, hp, e⟩ := List.mem_map.mp hm
            exact (off p (hp1.mem_iff.mpr hp)).2 e
        have S2 : St F c lo1 ((I + 1, .obj o1) :: (I, .obj o2) :: (ax, .obj { cls := .type "tuple", data := .seq vs'.toArray }) :: led3) { s1 with heap := h, toks := tk } :=
          ⟨sm.upd _ _, lk1, m', (I + 1, o1) :: (I, o2) :: (ax, _) :: cl', F1, hlo1, .cons .obj (.cons .obj (.cons .obj D1)), news_perm N1 (.cons _ (.cons _ hp1)), nd2⟩
        obtain ⟨z1, z2⟩ := hS.each (c.env F)
        refine assign_Tuple_tuple (items := #[.int i t, x]) rfl hT rfl z2 fun h' he => ?_
        refine hS.run ok (.cons (.int _ _ _) (.cons hq .nil)) (S2.push he) fun s3 S3 => wpAny_mono (hX ok s3 S3 _) (fun fl s4 h4 => ?_) fun _ _ x => x
        cases fl with
        | ret v' => obtain ⟨_, _, _, _, _, k⟩ := h4; exact k.elim
        | brk => obtain ⟨_, _, _, k⟩ := h4; exact k.elim
        | cont => obtain ⟨_, _, _, k⟩ := h4; exact k.elim
        | next =>
          obtain ⟨lo4, led4, S4, led5, Sp, hJ4⟩ := h4
          obtain ⟨sm4, lk4, m4, cl4, F4, hlo4, D4, N4, nd4⟩ := S4.split Sp
          obtain ⟨y1, l5, rfl, d1, D5⟩ := DenL.unapp (a := asO [(I + 1, o1), (I, o2), (ax, ({ cls := .type "tuple", data := .seq vs'.toArray } : Obj))]) D4
          obtain rfl := den_asO_inv d1
          have n1 := List.nodup_cons.mp nd4
          have n2 := List.nodup_cons.mp n1.2
          refine ⟨rfl, s4.heap, s4.toks, m4, (ax, _) :: l5, ?_, F4, N4, fun p hp => ⟨fun e => ?_, fun e => ?_⟩, .head _, lo4, led5, l5, lk4, hlo4, .refl _, D5, n2.2, hJ4⟩
          · have e1 : s4 = { c.s₀ with heap := s4.heap, toks := s4.toks } := sm4
            have e2 : s1 = { c.s₀ with heap := s1.heap, toks := s1.toks } := sm
            rw [e2]; exact e1
          · exact n1.1 (e ▸ .tail _ (List.mem_map_of_mem (f := (·.1)) hp))
          · exact n2.1 (e ▸ List.mem_map_of_mem (f := (·.1)) hp)
      · rintro m' n' h tk ⟨lo1, led3, cl', lk1, hlo1, hp1, D1, nd1, hJ1⟩ F1 N1
        rw [← qv.length] at hJ1
        refine ⟨lo1, led3, ⟨sm.upd _ _, lk1, m', cl', F1, hlo1, D1, fun p hp => news_perm N1 hp1 p (.tail _ hp), ?_⟩, hd lo1 led3 hJ1⟩
        exact (List.nodup_cons.mp ((hp1.map (·.1)).nodup_iff.mp nd1)).2
theorem off1_mem {D : Addr} {l : List (Addr × Obj)} (h : LCg.Off1 D l) : ∀ p ∈ l, p.1 ≠ D := by
  induction l with
  | nil => intro p hp; cases hp
  | cons q r ih =>
    intro p hp
    rcases List.mem_cons.mp hp with rfl | hp
    · exact h.1
    · exact ih h.2 p hp
theorem DenL.list2 {w : World} {led : ALed} {cl : Led} (D : DenL w led cl) {ax t1 t2 : Addr} (h : (ax, AO.list [.ref t1, .ref t2]) ∈ led) : ∃ n, (ax, listOf (List.toArray [.ref t1, .ref t2]) n) ∈ cl := by
  obtain ⟨l, d, hl⟩ := D.get h
  cases d with
  | @list _ vs' nn q =>
    obtain ⟨v1', v2', rfl, qa, qb⟩ := q.two
    cases qa.ref_inv
    cases qb.ref_inv
    exact ⟨nn, hl _ (.head _)⟩
theorem DenL.tup2 {w : World} {led : ALed} {cl : Led} (D : DenL w led cl) {t d : Addr} {u : Value} (h : (t, AO.tup [.ref d, u]) ∈ led) : ∃ y, (t, ({ cls := .type "tuple", data := .seq (List.toArray [.ref d, y]) } : Obj)) ∈ cl := by
  obtain ⟨l, d, hl⟩ := D.get h
  cases d with
  | tup q =>
    obtain ⟨v1', v2', rfl, qa, qb⟩ := q.two
    cases qa.ref_inv
    exact ⟨_, hl _ (.head _)⟩
theorem DenL.tup1 {w : World} {led : ALed} {cl : Led} (D : DenL w led cl) {a : Addr} {v : Value} {r : List Value} (h : (a, AO.tup (v :: r)) ∈ led) : ∃ y ys, (a, ({ cls := .type "tuple", data := .seq (List.toArray (y :: ys)) } : Obj)) ∈ cl ∧ VEq v y := by
  obtain ⟨l, d, hl⟩ := D.get h
  cases d with
  | tup q =>
    cases q with
    | cons q1 q2 => exact ⟨_, _, hl _ (.head _), q1⟩
theorem Ex.comp2 {n x x₂ : Str} {pn p1 p2 p3 px px₂ tp : Pos} {tk kk : Nat} {scope : Scope} {cl : List (Str × Addr)} {ax t1 t2 d1 d2 : Addr} {u1 u2 v1 v2 : Value} {r1 r2 : List Value} (hclos : closureFor scope (c.env F) = pure cl) (hcell : (scope.names.all fun y => !(y.2 == .cell)) = true) (hkind : scope.kind = .function) (hnames : (scope.names.all fun y => !(y.2 == .local) || scope.names.lookup y.1 == some .local) = true) (hx : scope.names.lookup x = some .local) (hx₂ : scope.names.lookup x₂ = some .local) (hxx : x ≠ x₂) (hxd : (x == ("__debug__" : Str)) = false)
    (hv : (n, some (.ref ax)) ∈ lo) (h0 : (ax, AO.list [.ref t1, .ref t2]) ∈ led) (h1 : (t1, AO.tup [.ref d1, u1]) ∈ led) (h2 : (t2, AO.tup [.ref d2, u2]) ∈ led) (g1 : (d1, AO.tup (v1 :: r1)) ∈ led) (g2 : (d2, AO.tup (v2 :: r2)) ∈ led) (k : ∀ D, P (.ref D) ((D, .list [v1, v2]) :: led)) :
    Ex F lev c lo led (.ListComp (.Subscript (.Name x p1) (.Constant (.int 0) kk p2) p3) [⟨.Tuple [.Name x px, .Name x₂ px₂] tk tp, .Name n pn, [], 0⟩] scope pos) P := fun ok s S E => by
  have hcell' : ∀ y ∈ scope.names, y.2 ≠ .cell := fun y hy e => by
    have := List.all_eq_true.mp hcell y hy
    rw [e] at this; cases this
  have hnames' : ∀ y ∈ scope.names, y.2 = .local → scope.names.lookup y.1 = some .local := fun y hy e => by
    have := List.all_eq_true.mp hnames y hy
    rw [e] at this
    exact eq_of_beq this
  obtain ⟨sm, lk, m, cl1, Fm, hlo, D, N, nd⟩ := S
  obtain ⟨v', e1, e2⟩ := hlo n _ hv
  cases e2.ref_inv
  obtain ⟨b1, b2⟩ := Bool.and_eq_true_iff.mp (lk.2 n (List.mem_map_of_mem (f := (·.1)) hv))
  have turn : ∀ {d : Addr} {v : Value} {r : List Value}, (d, AO.tup (v :: r)) ∈ led → ∃ w, VEq v w ∧ ∀ {u : Value} {I : Addr} {oI : Obj} {C : Addr} {oC : Obj} {D : Addr} {oD : Obj} {m₂ : Str → Option Value} {h : Heap} {tk : Nat} {E' : Value → Shared → Prop} {R : Value → List (Addr × Obj) → Prop} {SS : List (Addr × Obj) → Prop}, LCg.NsObj oC m₂ → m₂ x = some (.ref d) → Fr c.g c.L h m → News c.g c.L h ((I, oI) :: (C, oC) :: (D, oD) :: cl1) → LCg.Off3 I C D cl1 → SS cl1 → R w cl1 →
      wpAny (model PG c.w) (c.A F) (eval (.Subscript (.Name x p1) (.Constant (.int 0) kk p2) p3) (compEnvC scope cl C (c.env F))) (LCg.CompEnd c.g c.L m { s with heap := h, toks := tk } I oI C oC D oD SS R) E' { s with heap := h, toks := tk } := by
    intro d v r hm
    obtain ⟨w, l', hw, q1⟩ := D.tup1 hm
    refine ⟨w, q1, ?_⟩
    intro u I oI C oC D oD m₂ h tk E' R SS nsC hmx F' N' off hS hR
    refine Subscript_ (wpAny_Name (wpAny_loadName_local (v := .ref d) hkind (lookup_relabel_local hx) (nsC.ns (N' (C, oC) (.tail _ (.head _))).1) hmx (wpAny_Constant_int ?_)) hxd)
    exact item_tupleT (j := 0) ⟨_, (N' _ (.tail _ (.tail _ (.tail _ hw)))).1, rfl, _, rfl⟩ (by decide) (by decide) (by unfold seqIndex?; simp) rfl ⟨h, tk + 1, cl1, rfl, F', N', off, hS, hR⟩ (by with_unfolding_all rfl)
  obtain ⟨nn, hl⟩ := D.list2 h0
  obtain ⟨y2, m1⟩ := D.tup2 h1
  obtain ⟨y4, m2⟩ := D.tup2 h2
  obtain ⟨w1, qw1, T1⟩ := turn g1
  obtain ⟨w2, qw2, T2⟩ := turn g2
  refine LCp.ListComp_P Fm hclos hcell' hkind hnames' hx hx₂ hxx (nm_L Fm e1 (LCp.SrcLP.ledger (k := nn) rfl Fm N hl (by rw [sizeLine_eq]; exact (by decide : 2 ≤ 16777216)) fun g => ?_) ok.k (of_decide_eq_true b1) (Bool.not_eq_true' _ ▸ b2)) (fun _ => rfl)
  show LCp.CompRestP _ _ _ _ _ _ _ _ _ _ _ _ _ _ _ _ 2 0 [] _
  refine LCp.CompRestP.succ fun v hv => ?_
  obtain rfl : v = .ref t1 := (Option.some.inj hv).symm
  refine ⟨t1, _, .ref d1, y2, 0, rfl, m1, rfl, rfl, fun I oI C oC D9 m₂ h tk E' nsC hm1 hm2 F' N' off ne => T1 (u := .none) nsC hm1 F' N' off (.inr ⟨_, hl, rfl, _, rfl⟩) (LCp.CompRestP.succ fun v hv => ?_)⟩
  obtain rfl : v = .ref t2 := (Option.some.inj hv).symm
  refine ⟨t2, _, .ref d2, y4, 0, rfl, m2, rfl, rfl, fun I oI C oC D9 m₂ h tk E' nsC hm1 hm2 F' N' off ne => T2 (u := .none) nsC hm1 F' N' off (.inr ⟨_, hl, rfl, _, rfl⟩) (LCp.CompRestP.zero fun D9 h tk F' N' off => ?_)⟩
  refine ⟨.ref D9, _, .refl _, ⟨by have := sm.upd h tk; exact this, lk, m, (D9, _) :: cl1, F', hlo, .cons (.list (n := 2) (.cons qw1 (.cons qw2 .nil))) D, N', ?_⟩, k D9⟩
  refine List.nodup_cons.mpr ⟨fun hm => ?_, nd⟩
  obtain ⟨p, hp, e⟩ := List.mem_map.mp hm
  exact off1_mem off p hp e
end
end
section
open PySem PySem.W PySem.Calls PyProof.Rows PySem.Spec PyProof.V PyProof
theorem pick_pre (its : Array Value) {j : Int} (h1 : 0 ≤ j) : slicePick its none (some j) none = (its.toList.take j.toNat).toArray := by
  obtain ⟨b, rfl⟩ := Int.eq_ofNat_of_zero_le h1
  rw [kmk_pick_nat _ (slice_bounds0 b _), ← Array.length_toList, List.drop_zero, Nat.sub_zero, Int.toNat_natCast, ← List.take_take, List.take_length]
section
variable {F : Fn} {lev : Nat} {c : Cx} {lo lo' : Lo} {led led' led1 led2 : ALed} {Φ : Fl} {rest body : List Stmt} {a e iter elt : Expr} {pos p px : Pos} {es : List Expr} {vs : List Value} {P : Value → ALed → Prop} {i j : Int} {t u : Tok} {x : Str} {scope : Scope} {cl : List (Str × Addr)}
theorem Ex.slice0 {l : Addr} {ws : List Value} (ha : Ev F lev c lo led a (.ref l)) (h2 : Ev F lev c lo led e (.int j u)) (hb : c.g.IsList l ws.toArray) (hj : 0 ≤ j) (hz : ws.length ≤ 1000000) (q : VsEq vs ws)
    (k : ∀ d, P (.ref d) ((d, .list (vs.take j.toNat)) :: led)) : Ex F lev c lo led (.Subscript a (.Slice none (some e) none p) pos) P := by
  intro ok s S E
  refine Subscript_ (ha ok s S _ _ fun v1 s1 q1 S1 => ?_)
  refine wpAny_Slice (evalPart_none_step (evalPart_some_step (h2 ok s1 S1 _ _ fun v3 s3 q3 S3 => evalPart_none_step ?_)))
  cases q1.ref_inv
  obtain ⟨t3, rfl⟩ := q3.int_inv
  obtain ⟨sm, lk, m, cl, Fm, hlo, D, N, nd⟩ := S3
  obtain ⟨o, ho, r⟩ := hb
  refine kba_turn (value' := PySem.Expr.Name (PySem.Str.ofString "_") ⟨0, 0, 0, 0⟩) (fun _ => rfl) ?_
  exact kmk_slice Fm N ⟨o, Fm.keep _ _ ho, r⟩ .none (.int _ _) (fun d h' F' N' lt => by
    rw [pick_pre _ hj] at N'
    exact ⟨_, _, .refl _, ⟨sm.upd h' _, lk, m, _, F', hlo, .cons (.list (q.take _)) D, N', nodup_new (h := h') nd lt⟩, k d⟩) (by with_unfolding_all rfl) (fun _ => rfl) (by rw [List.size_toArray, sizeLine_eq]; exact Nat.le_trans hz (by decide))
theorem Ev.abs (h : Ev F lev c lo led a (.int i t)) (hs : noStar a = true) (hg : isGlob F "abs" = true) (hn : nsIn (Mine.fr0.heap_1 c.w.params) mainGlobals "abs" = some Option.none) : Ev F lev c lo led (.Call (.Name "abs" p) [a] [] pos) (.int (if i < 0 then -i else i) 0) := fun ok s S Q E k =>
  callB ok hn rfl rfl hg (by simp) (.cons hs h .nil) S fun vs' s' q S' => by
    obtain ⟨v', rfl, q1⟩ := q.one
    obtain ⟨t', rfl⟩ := q1.int_inv
    exact call_abs_int fun u tk => k _ _ (.int _ _ _) (S'.toks tk)
inductive CmEP (J : List Value → List Value → ALed → Prop) (P : Value → ALed → Prop) (v : Value) (led1 : ALed) : Prop
  | mk (ax : Addr) (vs : List Value) (led2 : ALed) (e : v = .ref ax) (R : Rem (ax, .list vs) led1 led2) (hz : vs.length ≤ 100000) (hJ : J vs [] led2) (fin : ∀ D ys led, J [] ys led → P (.ref D) ((D, .list ys) :: (ax, .list vs) :: led))
theorem Ex.compE (hclos : closureFor scope (c.env F) = pure cl) (hcell : (scope.names.all fun y => !(y.2 == .cell)) = true) (hkind : scope.kind = .function) (hnames : (scope.names.all fun y => !(y.2 == .local) || scope.names.lookup y.1 == some .local) = true) (hx : scope.names.lookup x = some .local) (hx2 : isLoc (cmF scope F) x = true)
    (hs : ∀ x, foldedSetIterable iter (c.env F) x = pure x) (J : List Value → List Value → ALed → Prop) (he : Ex F lev c lo led iter (CmEP J P))
    (turn : ∀ ax o, CmTurn F c scope cl elt x J [(ax, o)]) : Ex F lev c lo led (.ListComp elt [⟨.Name x px, iter, [], 0⟩] scope pos) P := Ex.comp hclos hcell hkind hnames hx hx2 hs fun ok s S E => wpAny_mono (he ok s S E) (fun v' s' ⟨v, led1, q, S', ax, vs, led2, e1, R, hz, hJ, fin⟩ => by
  subst e1
  cases q.ref_inv
  exact cm_list J R hz hJ (fun o => (turn ax o).C) fin S') fun _ _ x => x
end
end
section
open PySem PySem.W PySem.Calls PyProof.Rows PySem.Spec
set_option maxHeartbeats 1000000
section
variable {F : Fn} {lev : Nat} {c : Cx} {lo : Lo} {led : ALed} {a : Expr} {l : Addr} {t : Tok} {v0 v1 : Value} {pos p2 : Pos}
theorem Ev.p0 (he : Ev F lev c lo led a (.ref l)) (hm : (l, AO.list [v0, v1]) ∈ led) : Ev F lev c lo led (.Subscript a (.Constant (.int 0) t p2) pos) v0 := Ev.item he Ev.int hm (Int.le_refl _) (by decide : 2 < 2 ^ 62) rfl
theorem Ev.p1 (he : Ev F lev c lo led a (.ref l)) (hm : (l, AO.list [v0, v1]) ∈ led) : Ev F lev c lo led (.Subscript a (.Constant (.int 1) t p2) pos) v1 := Ev.item he Ev.int hm (by decide : (0 : Int) ≤ 1) (by decide : 2 < 2 ^ 62) rfl
end
local macro_rules | `(tactic| walk_at "h_ev2") => `(tactic| first
  | ((with_reducible refine' Ev.mul ?a ?b ?x ?y); (case a => walk_at "h_ev"); (case b => walk_at "h_ev"); (case x => lia); (case y => lia))
  | ((with_reducible refine' Ev.mod ?a ?b ?x); (case a => walk_at "h_ev"); (case b => walk_at "h_ev"); (case x => lia))
  | ((with_reducible refine' Ev.fdiv ?a ?b ?x ?y); (case a => walk_at "h_ev"); (case b => walk_at "h_ev"); (case x => decide); (case y => decide))
  | ((with_reducible refine' Ev.p0 ?e ?m); (case e => walk_at "h_ev"); (case m => walk_at "h_mem"))
  | ((with_reducible refine' Ev.p1 ?e ?m); (case e => walk_at "h_ev"); (case m => walk_at "h_mem"))
  | ((with_reducible refine' Ev.item ?a ?b ?m ?h0 ?z ?v); (case a => walk_at "h_ev"); (case b => walk_at "h_ev"); (case m => walk_at "h_mem"); (case h0 => assumption); (case z => assumption); (case v => assumption)))
noncomputable abbrev dkL (dk il : Addr) (k : Int) (ns : List Int) : ALed := [(dk, .list [.ref il, .int k 0]), (il, .list (iv ns))]
theorem draw_H (dk il : Addr) (k mm : Int) (ns : List Int) (hl : ns.length ≤ 63) (hk0 : 0 ≤ k) (hk1 : k ≤ 1000) (hm0 : 0 < mm) :
    HSpec 1 757 [.ref dk, .int mm 0] (dkL dk il k ns) fun K => ∀ j, 0 ≤ j → j < mm → K (.int j 0) (dkL dk il (k + 1) ns) := by
  have hil : (iv ns).length = ns.length := List.length_map _
  have hz : (iv ns).length < 2 ^ 62 := by rw [hil]; exact Nat.lt_of_le_of_lt hl (by decide)
  have hil2 : (iv ns).length ≤ 1000 := by lia
  have h0 : 0 ≤ k + 1 - 1 := by lia
  refine' HSpec.intro [sN "deck", sN "many"] [] ?ho ?hcd ?hb ?ml ?hn ?hco ?hgen ?hk ?hcell ?body
  walk_at "h_intro"
  case hb => exact arity2 fun _ _ => rfl
  case body =>
  intro c K hK
  refine' X.seti (vs := [.ref il, .int k 0]) (i := 1) (led' := dkL dk il (k + 1) ns) ?v1 ?o1 ?x1 ?R (by decide) (by decide : 1 < 2) (by decide : 2 ≤ 1000000) rfl ?k1
  case v1 => walk_at "h_ev"
  case o1 => walk_at "h_ev"
  case x1 => walk_at "h_ev"
  case R => exact Rep.head
  case k1 =>
  refine' X.ite ?t9 ?y9 ?n9
  case t9 => walk_at "h_ts"
  case y9 =>
    intro hy
    have hv : (iv ns)[(k + 1 - 1).toNat]? = some (.int (ns[(k + 1 - 1).toNat]'(by lia)) 0) := by
      rw [iv, List.getElem?_map, List.getElem?_eq_getElem]; rfl
    refine' X.retP (Ex.ev ?h ⟨_, _, ?S, hK _ (Int.fmod_nonneg_of_pos _ hm0) (Int.fmod_lt_of_pos _ hm0)⟩)
    case h => walk_at "h_ev"
    case S => walk_at "h_split"
  case n9 =>
    intro hn
    refine' X.nilT ?_
    refine' X.retP (Ex.ev ?h2 ⟨_, _, ?S2, hK _ (Int.fmod_nonneg_of_pos _ hm0) (Int.fmod_lt_of_pos _ hm0)⟩)
    case h2 => walk_at "h_ev"
    case S2 => walk_at "h_split"
end
section
open PySem PySem.W PySem.Calls PyProof.Rows PySem.Spec
structure MQ where
  p : Addr
  i : Int
  v : Bool
  y : Int
noncomputable abbrev markF (i : Int) (v : Bool) (b : Value) (y : Int) : Fields := [(sN "number", .int i 0), (sN "advances", .bool v), (sN "buffer", b), (sN "position", .int y 0)]
noncomputable abbrev mkA (b : Value) (m : MQ) : Addr × AO := (m.p, .inst 499 (markF m.i m.v b m.y))
noncomputable abbrev kvM (ms : List MQ) : List (Int × Value) := ms.map fun m => (m.i, Value.ref m.p)
noncomputable abbrev mksF (rd : Addr) : Fields := [(sN "rows", .ref rd)]
noncomputable abbrev mkL (mx rd : Addr) (b : Value) (ms : List MQ) : ALed := (mx, .inst 567 (mksF rd)) :: (rd, .idict (kvM ms)) :: ms.map (mkA b)
noncomputable def adjM (f : Bool → Int → Int) (m : MQ) : MQ := { m with y := f m.v m.y }
noncomputable def insAdj (st nd : Int) (bf v : Bool) (y : Int) : Int := if (decide (st < y) || ((decide (y = st) && ((bf || (v || false)) && true)) || false)) = true then y + nd - st else y
noncomputable def delAdj (st nd y : Int) : Int := if nd < y then y - (nd - st) else if st < y then st else y
noncomputable def repAdj (st nd mn y : Int) : Int := if nd ≤ y then y + mn - (nd - st) else if st < y then st else y
noncomputable def MsAsc (ms : List MQ) : Prop := (ms.map (·.i)).Pairwise (· < ·)
theorem kv_get {ms : List MQ} (h : MsAsc ms) {m : MQ} (hm : m ∈ ms) : valueAt (kvM ms) m.i = some (.ref m.p) := by
  unfold MsAsc at h
  induction ms with
  | nil => cases hm
  | cons a r ih =>
    rw [List.map_cons, List.pairwise_cons] at h
    unfold valueAt
    show Option.map _ (List.find? _ ((a.i, Value.ref a.p) :: kvM r)) = _
    rw [List.find?_cons]
    cases hm with
    | head => rw [decide_eq_true rfl]; rfl
    | tail _ hm =>
      have := h.1 m.i (List.mem_map_of_mem hm)
      rw [decide_eq_false (show ¬ a.i = m.i from fun e => by rw [e] at this; exact Int.lt_irrefl _ this)]
      exact ih h.2 hm
theorem kv_asc {ms : List MQ} (h : MsAsc ms) : ((kvM ms).map (·.1)).Pairwise (· ≤ ·) := by
  rw [List.map_map]
  exact List.Pairwise.imp (fun h => Int.le_of_lt h) h
theorem kv_adj (f : Bool → Int → Int) (ms : List MQ) : kvM (ms.map (adjM f)) = kvM ms := by
  rw [kvM, List.map_map]; rfl
theorem mks_keys (ms : List MQ) : iv ((kvM ms).map (·.1)) = ms.map (fun m => Value.int m.i 0) := by
  rw [iv, kvM, List.map_map, List.map_map]; rfl
noncomputable abbrev mkT (mx rd : Addr) (b : Value) (f : Bool → Int → Int) (ms dn : List MQ) (tl : ALed) : ALed := (mx, .inst 567 (mksF rd)) :: (rd, .idict (kvM ms)) :: ((dn.map (adjM f)).map (mkA b) ++ tl)
inductive MkInv (mk : Option Value → Option Value → Lo) (mx rd : Addr) (b : Value) (ms : List MQ) (f : Bool → Int → Int) (r : List Value) (lo : Lo) (led : ALed)  : Prop
  | mk (u1 u2 : Option Value) (dn td : List MQ) (f0 : lo = mk u1 u2) (f1 : ms = dn ++ td) (f2 : r = td.map (fun m => Value.int m.i 0)) (f3 : led = mkT mx rd b f ms dn (td.map (mkA b)))
section
variable {mk : Option Value → Option Value → Lo} {mx rd : Addr} {b v : Value} {ms : List MQ} {f : Bool → Int → Int} {r : List Value} {lo : Lo} {led : ALed}
theorem MkInv.init (u1 u2 : Option Value) : MkInv mk mx rd b ms f (iv ((kvM ms).map (·.1))) (mk u1 u2) (mkL mx rd b ms) := ⟨u1, u2, [], ms, rfl, rfl, mks_keys ms, rfl⟩
theorem MkInv.done (h : MkInv mk mx rd b ms f [] lo led) : (∃ u1 u2, lo = mk u1 u2) ∧ led = mkL mx rd b (ms.map (adjM f)) := by
  obtain ⟨u1, u2, dn, td, rfl, e1, e2, rfl⟩ := h
  obtain rfl := List.map_eq_nil_iff.mp e2.symm
  rw [List.append_nil] at e1
  subst e1
  exact ⟨⟨u1, u2, rfl⟩, by rw [mkL, kv_adj, mkT, List.map_nil, List.append_nil]⟩
theorem MkInv.turn (h : MkInv mk mx rd b ms f (v :: r) lo led) : ∃ (u1 u2 : Option Value) (dn : List MQ) (m : MQ) (td : List MQ), lo = mk u1 u2 ∧ v = .int m.i 0 ∧ m ∈ ms ∧ led = mkT mx rd b f ms dn (mkA b m :: td.map (mkA b))
    ∧ ∀ w1 w2 y', y' = f m.v m.y → MkInv mk mx rd b ms f r (mk w1 w2) (mkT mx rd b f ms dn ((m.p, .inst 499 (markF m.i m.v b y')) :: td.map (mkA b))) := by
  obtain ⟨u1, u2, dn, td, rfl, e1, e2, rfl⟩ := h
  cases td with
  | nil => cases e2
  | cons m td =>
    cases e2
    refine ⟨u1, u2, dn, m, td, rfl, rfl, by rw [e1]; exact List.mem_append_right _ (.head _), rfl, fun w1 w2 y' e => ⟨w1, w2, dn ++ [m], td, rfl, by rw [e1, List.append_assoc]; rfl, rfl, ?_⟩⟩
    rw [mkT, mkT, List.map_append, List.map_append, List.append_assoc, e]; rfl
end
noncomputable abbrev bufF (x mx ln : Addr) (un : Value) (pt bv zv nk ck sv : Int) : Fields := [(sN "number", .int 1 0), (sN "name", .str (sN "one") 0), (sN "text", .ref x), (sN "markers", .ref mx), (sN "point", .int pt 0), (sN "begv", .int bv 0), (sN "zv", .int zv 0), (sN "mark", .none), (sN "is_live", .bool true), (sN "is_read_only", .bool false),
  (sN "ticks", .int nk 0), (sN "codes_ticks", .int ck 0), (sN "saved_ticks", .int sv 0), (sN "listeners", .ref ln), (sN "undo", un), (sN "props", .none), (sN "overlays", .none), (sN "locals", .none), (sN "syntax", .none), (sN "file", .none)]
noncomputable def inM (st nd : Int) (m : MQ) : Bool := decide (st ≤ m.y) && decide (m.y ≤ nd)
noncomputable def mdist (st nd : Int) (adv : Bool) (y : Int) : Int := if (decide (y < st) || (decide (nd < y) || false)) = true then 0 else if adv = true then nd - y else st - y
end
section
open PySem PySem.W PySem.Calls PyProof.Rows PySem.Spec
set_option maxHeartbeats 1000000
noncomputable abbrev gapF (cl : Addr) (room gs ge : Int) : Fields := [(sN "room", .int room 0), (sN "cells", .ref cl), (sN "gap_start", .int gs 0), (sN "gap_end", .int ge 0)]
theorem size_H (x cl : Addr) (room gs ge : Int) (vs : List Value) (hz : vs.length ≤ 1000) :
    HSpec 1 356 [.ref x] [(x, .inst 422 (gapF cl room gs ge)), (cl, .list vs)] fun K => K (.int (vs.length - ge + gs) 0) [(x, .inst 422 (gapF cl room gs ge)), (cl, .list vs)] := by
  refine' HSpec.intro [sN "self"] [] ?ho ?hcd ?hb ?ml ?hn ?hco ?hgen ?hk ?hcell ?body
  walk_at "h_intro"
  case hb => exact arity1 fun _ => rfl
  case body =>
  intro c K hK
  refine' X.ret ?a (Split.last RemL.all) ?k
  case a => walk_at "h_ev"
  case k => exact hK
theorem move_H (x cl : Addr) (room gs ge at_ : Int) (A G B : List Int) (hgs : gs = A.length) (hge : ge = A.length + G.length) (ha0 : 0 ≤ at_) (ha1 : at_ ≤ A.length + B.length) (hz : A.length + G.length + B.length ≤ 1000) :
    HSpec 1 377 [.ref x, .int at_ 0] [(x, .inst 422 (gapF cl room gs ge)), (cl, .list (iv (A ++ G ++ B)))] fun K => ∀ G' : List Int, G'.length = G.length → K .none [(x, .inst 422 (gapF cl room at_ (at_ + G.length))), (cl, .list (iv ((A ++ B).take at_.toNat ++ G' ++ (A ++ B).drop at_.toNat)))] := by
  obtain ⟨a, rfl⟩ := Int.eq_ofNat_of_zero_le ha0
  have hil : (iv (A ++ G ++ B)).length = A.length + G.length + B.length := by rw [List.length_map, List.length_append, List.length_append]
  have hz6 : (iv (A ++ G ++ B)).length ≤ 1000000 := by rw [hil]; exact Nat.le_trans hz (by decide)
  have hgt : ge.toNat = A.length + G.length := by rw [hge]; exact Int.toNat_natCast (A.length + G.length)
  have hgs0 : 0 ≤ gs := by rw [hgs]; exact Int.natCast_nonneg _
  have hge0 : 0 ≤ ge := by rw [hge]; exact Int.natCast_nonneg (A.length + G.length)
  have aG : ∀ k : Nat, ((k : Int) + G.length).toNat = k + G.length := fun k => Int.toNat_natCast (k + G.length)
  refine' HSpec.intro [sN "self", sN "at"] [sN "moved"] ?ho ?hcd ?hb ?ml ?hn ?hco ?hgen ?hk ?hcell ?body
  walk_at "h_intro"
  case hb => exact arity2 fun _ _ => rfl
  case body =>
  intro c K hK
  refine' X.ite ?tt1 ?yy1 ?nn1
  case tt1 => walk_at "h_ts"
  case yy1 =>
    intro hy
    have ea : a ≤ A.length := Nat.le_of_lt (Int.ofNat_lt.mp (hgs ▸ hy))
    obtain ⟨u, hu⟩ := Nat.exists_eq_add_of_le ea
    have lm : ((A.drop a).length : Int) = u := by rw [List.length_drop, hu, Nat.add_sub_cancel_left]
    have hzz : (iv (A ++ G ++ B)).length + (iv (A.drop a)).length ≤ 1000000 := Nat.le_trans (Nat.add_le_add (hil ▸ hz) (by rw [List.length_map, List.length_drop]; exact Nat.le_trans (Nat.sub_le _ _) (Nat.le_trans (Nat.le_add_right _ _) (Nat.le_trans (Nat.le_add_right _ _) hz)))) (by decide)
    refine' X.assignE rfl ?_
    walk_at "h_slice"
    case h0 => exact ha0
    case hj => exact hgs0
    case k =>
    intro d
    have m1 : List.take (gs.toNat - (a : Int).toNat) (List.drop (a : Int).toNat (iv (A ++ G ++ B))) = iv (A.drop a) := by
      rw [hgs, Int.toNat_natCast, Int.toNat_natCast, ← List.map_drop, ← List.map_take, mv_moved1 A G B a ea]
    rw [m1]
    have m2 : ge - ((A.drop a).length : Int) = a + G.length := by rw [lm, hge, hu, Int.natCast_add]; clear hK; lia
    refine' ⟨_, ?sl, ?xk1⟩
    case sl => walk_at "h_setl"
    case xk1 =>
    walk_at "h_setslice"
    case h0 => rw [m2]; exact Int.natCast_nonneg (a + G.length)
    case h1 => exact Int.sub_le_self _ (Int.natCast_nonneg _)
    case hj => rw [hil, hge]; exact Int.ofNat_le.mpr (Nat.le_add_right (A.length + G.length) _)
    case k =>
    walk_at "h_setattr"
    case k =>
    refine' X.nilT ?_
    walk_at "h_setattr"
    case k =>
    rw [m2]
    have m3 : List.take ((a : Int) + G.length).toNat (iv (A ++ G ++ B)) ++ iv (A.drop a) ++ List.drop ge.toNat (iv (A ++ G ++ B)) = iv (List.take (a : Int).toNat (A ++ B) ++ ((A ++ G ++ B).take (a + G.length)).drop a ++ List.drop (a : Int).toNat (A ++ B)) := by
      rw [← List.map_take, ← List.map_drop, ← List.map_append, ← List.map_append, hgt, aG, mv1 A G B a ea, Int.toNat_natCast, List.take_append_of_le_length ea, List.drop_append_of_le_length ea]
    rw [m3]
    refine' X.finF ?a1 (hK _ (mv1_len A G B a ea))
    case a1 => walk_at "h_split"
  case nn1 =>
    intro hn
    obtain ⟨j, rfl⟩ := Nat.exists_eq_add_of_le (Int.ofNat_le.mp (hgs ▸ Int.not_lt.mp hn) : A.length ≤ a)
    have ej : j ≤ B.length := Nat.le_of_add_le_add_left (Int.ofNat_le.mp ha1)
    have hgj : ge + ((A.length + j : Nat) : Int) - gs = ((A.length + G.length + j : Nat) : Int) := by rw [hge, hgs]; clear hK; lia
    refine' X.assignE rfl ?_
    walk_at "h_slice"
    case h0 => exact hge0
    case hj => rw [hgj]; exact Int.natCast_nonneg _
    case k =>
    intro d
    have m1 : List.take ((ge + ((A.length + j : Nat) : Int) - gs).toNat - ge.toNat) (List.drop ge.toNat (iv (A ++ G ++ B))) = iv (B.take j) := by
      rw [hgj, Int.toNat_natCast, hgt, Nat.add_sub_cancel_left, ← List.map_drop, ← List.map_take, mv_moved2]
    rw [m1]
    have hzz : (iv (A ++ G ++ B)).length + (iv (B.take j)).length ≤ 1000000 := Nat.le_trans (Nat.add_le_add (hil ▸ hz) (by rw [List.length_map, List.length_take_of_le ej]; exact Nat.le_trans ej (Nat.le_trans (Nat.le_add_left _ _) hz))) (by decide)
    refine' ⟨_, ?sl2, ?k2⟩
    case sl2 => walk_at "h_setl"
    case k2 =>
    walk_at "h_setslice"
    case h0 => exact hgs0
    case h1 => exact Int.le_add_of_nonneg_right (Int.natCast_nonneg _)
    case hj => rw [List.length_take_of_le ej, hil, hgs]; exact Int.ofNat_le.mpr (by rw [Nat.add_assoc]; exact Nat.add_le_add_left (Nat.le_trans ej (Nat.le_add_left _ _)) _)
    case k =>
    walk_at "h_setattr"
    case k =>
    refine' X.nilT ?_
    walk_at "h_setattr"
    case k =>
    rw [show ((B.take j).length : Int) = j by rw [List.length_take_of_le ej]]
    have t1 : List.take (A.length + j) (A ++ B) = A ++ B.take j := by rw [List.take_append, List.take_of_length_le (Nat.le_add_right _ _), Nat.add_sub_cancel_left]
    have t2 : List.drop (A.length + j) (A ++ B) = B.drop j := by rw [List.drop_append, List.drop_of_length_le (Nat.le_add_right _ _), Nat.add_sub_cancel_left, List.nil_append]
    have m3 : List.take gs.toNat (iv (A ++ G ++ B)) ++ iv (B.take j) ++ List.drop (gs + (j : Int)).toNat (iv (A ++ G ++ B)) = iv (List.take ((A.length + j : Nat) : Int).toNat (A ++ B) ++ ((G ++ B).drop j).take G.length ++ List.drop ((A.length + j : Nat) : Int).toNat (A ++ B)) := by
      rw [← List.map_take, ← List.map_drop, ← List.map_append, ← List.map_append, show (gs + (j : Int)).toNat = A.length + j by rw [hgs]; exact Int.toNat_natCast (A.length + j), show gs.toNat = A.length by rw [hgs, Int.toNat_natCast], mv2 A G B j ej, Int.toNat_natCast, t1, t2]
    rw [m3, show ge + (j : Int) = ((A.length + j : Nat) : Int) + G.length by rw [hge, Int.natCast_add, Int.add_right_comm]]
    refine' X.finF ?a2 (hK _ (mv2_len G B j ej))
    case a2 => walk_at "h_split"

theorem widen_H (x cl : Addr) (room gs ge n : Int) (A G B : List Int) (hgs : gs = A.length) (hge : ge = A.length + G.length) (hr0 : 0 ≤ room) (hn0 : 0 ≤ n) (hn1 : A.length + B.length + n + room ≤ 1000) (hns : A.length + G.length + B.length ≤ 1000) :
    HSpec 1 384 [.ref x, .int n 0] [(x, .inst 422 (gapF cl room gs ge)), (cl, .list (iv (A ++ G ++ B)))] fun K => ∀ (ge' : Int) (G' : List Int), ge' = A.length + G'.length → n ≤ G'.length → A.length + G'.length + B.length ≤ 1000 → K .none [(x, .inst 422 (gapF cl room gs ge')), (cl, .list (iv (A ++ G' ++ B)))] := by
  refine' HSpec.intro [sN "self", sN "wanted"] [sN "lack"] ?ho ?hcd ?hb ?ml ?hn ?hco ?hgen ?hk ?hcell ?body
  walk_at "h_intro"
  case hb => exact arity2 fun _ _ => rfl
  case body =>
  intro c K hK
  walk_at "h_assign"
  case k =>
  refine' X.ite ?t ?y ?n
  case t => walk_at "h_ts"
  case y =>
    intro hy
    have hl : ge - gs = G.length := by omega
    rw [hl] at hy ⊢
    have hg : (G ++ List.replicate (n - G.length + room).toNat (0 : Int)).length = n + room := by simp; omega
    refine' X.setsliceE rfl ?_
    refine' Ex.bin (Ex.list (.cons rfl Ev.int .nil) rfl fun d => Ex.ev ?a (Opn.rep ?m ?z0 ?z1 fun d2 => ?k))
    case a => walk_at "h_ev"
    case m => walk_at "h_mem"
    case z0 => omega
    case z1 => omega
    case k =>
    walk_at "h_sl"
    case h0 => omega
    case h1 => omega
    case hj => simp; omega
    case hz => simp; omega
    case k =>
    walk_at "h_setattr"
    case k =>
    refine' X.nilT ?_
    generalize hZ : List.replicate (n - ↑G.length + room).toNat (0 : Int) = Z at hg ⊢
    have e1 : List.take ge.toNat (iv (A ++ G ++ B)) ++ iv Z ++ List.drop ge.toNat (iv (A ++ G ++ B)) = iv (A ++ (G ++ Z) ++ B) := by
      rw [← List.map_take, ← List.map_drop, show ge.toNat = (A ++ G).length by simp; omega, List.take_left, List.drop_left, ← List.map_append, ← List.map_append, List.append_assoc A]
    rw [e1]
    refine' X.finF ?S (hK _ (G ++ Z) ?g1 ?g2 ?g3)
    case S => walk_at "h_split"
    case g1 => rw [List.length_append] at hg ⊢; omega
    case g2 => omega
    case g3 => omega
  case n =>
    intro hn
    refine' X.nilT ?_
    refine' X.finF ?S (hK ge G hge (by omega) hns)
    case S => walk_at "h_split"
end
section
open PySem PySem.W PySem.Calls PyProof.Rows PySem.Spec
set_option maxHeartbeats 1000000
theorem insert_H (x cl cr : Addr) (room gs ge at_ : Int) (A G B cs : List Int) (hgs : gs = A.length) (hge : ge = A.length + G.length) (hr0 : 0 ≤ room) (hn1 : A.length + B.length + cs.length + room ≤ 1000) (hns : A.length + G.length + B.length ≤ 1000) (ha0 : 0 ≤ at_) (ha1 : at_ ≤ A.length + B.length) :
    HSpec 2 391 [.ref x, .int at_ 0, .ref cr] [(x, .inst 422 (gapF cl room gs ge)), (cl, .list (iv (A ++ G ++ B))), (cr, .list (iv cs))] fun K => ∀ (gs' ge' : Int) (A' G' B' : List Int), gs' = A'.length → ge' = A'.length + G'.length → A' ++ B' = (A ++ B).take at_.toNat ++ cs ++ (A ++ B).drop at_.toNat → A'.length + G'.length + B'.length ≤ 1000 →
      K .none [(x, .inst 422 (gapF cl room gs' ge')), (cl, .list (iv (A' ++ G' ++ B'))), (cr, .list (iv cs))] := by
  have hcl : (iv cs).length = cs.length := List.length_map _
  obtain ⟨a, rfl⟩ := Int.eq_ofNat_of_zero_le ha0
  have ha : a ≤ (A ++ B).length := by rw [List.length_append]; exact Int.ofNat_le.mp ha1
  obtain ⟨r, hr⟩ := Nat.exists_eq_add_of_le ha
  have hT2 : A.length + B.length = a + r := by rw [← List.length_append, hr]
  have hTa : ((A ++ B).take a).length = a := List.length_take_of_le ha
  have hTd : ((A ++ B).drop a).length = r := by rw [List.length_drop, hr, Nat.add_sub_cancel_left]
  refine' HSpec.intro [sN "self", sN "at", sN "codes"] [] ?ho ?hcd ?hb ?ml ?hn ?hco ?hgen ?hk ?hcell ?body
  walk_at "h_intro"
  case hb => exact arity3 fun _ _ _ => rfl
  case body =>
  intro c K hK
  refine' X.expr rfl ?_
  refine' Ex.meth (widen_H x cl room gs ge cs.length A G B hgs hge hr0 (Int.natCast_nonneg _) hn1 hns) ?ho ?hm ?ha ?Sp ?hns ?hno ?h1 ?h2 ?h3 ?hk ?hl ?he ?hp
  walk_at "h_meth"
  case hp =>
  intro ge1 G1 h1 h2 h3
  (dsimp only [List.cons_append, List.nil_append])
  refine' X.expr rfl ?_
  refine' Ex.meth (move_H x cl room gs ge1 a A G1 B hgs h1 ha0 ha1 h3) ?ho ?hm ?ha ?Sp ?hns ?hno ?h1 ?h2 ?h3 ?hk ?hl ?he ?hp
  walk_at "h_meth"
  case hp =>
  intro G2 h4
  (dsimp only [List.cons_append, List.nil_append])
  rw [Int.toNat_natCast]
  have hcs : cs.length ≤ G2.length := by rw [h4]; exact Int.ofNat_le.mp h2
  have h5 : a + G2.length + r ≤ 1000 := by rw [h4, Nat.add_right_comm, ← hT2, Nat.add_right_comm]; exact h3
  have hil : (iv ((A ++ B).take a ++ G2 ++ (A ++ B).drop a)).length = a + G2.length + r := by rw [List.length_map, List.length_append, List.length_append, hTa, hTd]
  obtain ⟨w, hw⟩ := Nat.exists_eq_add_of_le hcs
  clear hgs hge hr0 hn1 hns ha1 h1 h2 h3 hT2 hr
  walk_at "h_setslice"
  case h0 => exact ha0
  case h1 => exact Int.le_add_of_nonneg_right (Int.natCast_nonneg _)
  case hj => rw [hil, hw, Nat.add_assoc, Nat.add_assoc]; exact Int.ofNat_le.mpr (Nat.add_le_add_left (Nat.le_add_right _ _) _)
  case k =>
  walk_at "h_setattr"
  case k =>
  generalize A ++ B = T at *
  have e1 : List.take (a : Int).toNat (iv (T.take a ++ G2 ++ T.drop a)) ++ iv cs ++ List.drop ((a : Int) + cs.length).toNat (iv (T.take a ++ G2 ++ T.drop a)) = iv ((T.take a ++ cs) ++ G2.drop cs.length ++ T.drop a) := by
    rw [← List.map_take, ← List.map_drop, ← List.map_append, ← List.map_append, Int.toNat_natCast, show ((a : Int) + cs.length).toNat = (T.take a).length + cs.length by rw [hTa]; exact Int.toNat_natCast (a + cs.length), List.append_assoc (T.take a) G2, List.take_left' hTa, drop_ge, List.drop_append_of_le_length hcs]
    simp only [List.append_assoc]
  rw [e1]
  refine' X.finF ?S (hK _ _ (T.take a ++ cs) (G2.drop cs.length) (T.drop a) ?g1 ?g2 ?g3 ?g4)
  case S => walk_at "h_split"
  case g1 => rw [List.length_append, hTa]; rfl
  case g2 => rw [List.length_append, List.length_drop, hTa, ← h4, hw, Nat.add_sub_cancel_left, Int.natCast_add, Int.natCast_add, Int.add_assoc]
  case g3 => rw [Int.toNat_natCast]
  case g4 => rw [List.length_append, List.length_drop, hTa, hTd, hw, Nat.add_sub_cancel_left, Nat.add_assoc a, ← hw]; exact h5
theorem codes_H (x cl : Addr) (room gs ge st nd : Int) (A G B : List Int) (hgs : gs = A.length) (hge : ge = A.length + G.length) (h0 : 0 ≤ st) (h01 : st ≤ nd) (h02 : nd ≤ A.length + B.length) (hns : A.length + G.length + B.length ≤ 1000) :
    HSpec 1 370 [.ref x, .int st 0, .int nd 0] [(x, .inst 422 (gapF cl room gs ge)), (cl, .list (iv (A ++ G ++ B)))] fun K => ∀ d : Addr, K (.ref d) [(d, .list (iv (((A ++ B).drop st.toNat).take (nd.toNat - st.toNat)))), (x, .inst 422 (gapF cl room gs ge)), (cl, .list (iv (A ++ G ++ B)))] := by
  obtain ⟨s, rfl⟩ := Int.eq_ofNat_of_zero_le h0
  obtain ⟨e, rfl⟩ := Int.eq_ofNat_of_zero_le (Int.le_trans h0 h01)
  have hse : s ≤ e := Int.ofNat_le.mp h01
  have heB : e ≤ A.length + B.length := Int.ofNat_le.mp h02
  have hE0 : (0 : Int) ≤ (e : Nat) := Int.natCast_nonneg _
  have hG0 : (0 : Int) ≤ G.length := Int.natCast_nonneg _
  have hcut : ∀ (l : List Value) (i j : Nat), ((l.drop i).take j).length ≤ l.length := fun l i j => by rw [List.length_take, List.length_drop]; exact Nat.le_trans (Nat.min_le_right _ _) (Nat.sub_le _ _)
  have hil : (iv (A ++ G ++ B)).length ≤ 1000 := by rw [List.length_map, List.length_append, List.length_append]; exact hns
  have hmE : e + G.length ≤ A.length + G.length + B.length := by rw [Nat.add_right_comm]; exact Nat.add_le_add_right heB _
  simp only [Int.toNat_natCast]
  have hsh : ge - gs = G.length := by rw [hge, hgs, Int.add_comm, Int.add_sub_cancel]
  have tG : ∀ k : Nat, ((k : Int) + G.length).toNat = k + G.length := fun k => Int.toNat_natCast (k + G.length)
  refine' HSpec.intro [sN "self", sN "start", sN "end"] [sN "shift"] ?ho ?hcd ?hb ?ml ?hn ?hco ?hgen ?hk ?hcell ?body
  walk_at "h_intro"
  case hb => exact arity3 fun _ _ _ => rfl
  case body =>
  intro c K hK
  walk_at "h_assign"
  case k =>
  rw [hsh]
  refine' X.ite ?t9 ?y9 ?n9
  case t9 => walk_at "h_ts"
  case y9 =>
    intro hy
    have heA : e ≤ A.length := Int.ofNat_le.mp (hgs ▸ hy)
    refine' X.retE ?_
    walk_at "h_slice"
    case h0 => exact h0
    case hj => exact hE0
    case k =>
    intro d
    have e1 := cd1 A G B s e hse heA
    rw [Nat.min_eq_left (Nat.le_trans heA (by rw [Nat.add_assoc]; exact Nat.le_add_right _ _))] at e1
    rw [Int.toNat_natCast, Int.toNat_natCast, ← List.map_drop, ← List.map_take, e1]
    exact hK d
  case n9 =>
    intro hn
    have hAe : A.length < e := Int.ofNat_lt.mp (hgs ▸ Int.not_le.mp hn)
    refine' X.nilT ?_
    refine' X.ite ?t8 ?y8 ?n8
    case t8 => walk_at "h_ts"
    case y8 =>
      intro hy
      refine' X.retE ?_
      walk_at "h_slice"
      case h0 => exact Int.add_nonneg h0 hG0
      case hj => exact Int.add_nonneg hE0 hG0
      case k =>
      intro d
      have e1 := cd2 A G B s e hse (Int.ofNat_le.mp (hgs ▸ hy)) heB
      rw [Nat.min_eq_left hmE] at e1
      rw [tG, tG, ← List.map_drop, ← List.map_take, e1]
      exact hK d
    case n8 =>
      intro hn2
      refine' X.nilT ?_
      refine' X.retS (Ex.bin ?_)
      walk_at "h_slice"
      case h0 => exact h0
      case hj => rw [hgs]; exact Int.natCast_nonneg _
      case k =>
      intro d
      walk_at "h_slice"
      case h0 => rw [hge]; exact Int.add_nonneg (Int.natCast_nonneg _) hG0
      case hj => exact Int.add_nonneg hE0 hG0
      case k =>
      intro d2
      refine' Opn.cat ?m1 ?m2 ?z ?k3
      case m1 => walk_at "h_mem"
      case m2 => walk_at "h_mem"
      case z => exact Nat.le_trans (Nat.add_le_add (Nat.le_trans (hcut _ _ _) hil) (Nat.le_trans (hcut _ _ _) hil)) (by decide)
      case k3 =>
      intro d3
      have e1 := cd3 A G B s e (Nat.le_of_lt (Int.ofNat_lt.mp (hgs ▸ Int.not_le.mp hn2))) (Nat.le_of_lt hAe) heB
      rw [Nat.min_eq_left (by rw [Nat.add_assoc]; exact Nat.le_add_right _ _), Nat.min_eq_left hmE] at e1
      rw [Int.toNat_natCast, show gs.toNat = A.length by rw [hgs, Int.toNat_natCast], show ge.toNat = A.length + G.length by rw [hge]; exact tG _, tG, ← List.map_drop, ← List.map_take, ← List.map_drop, ← List.map_take, ← List.map_append, e1]
      refine' ⟨_, _, ?S, hK d3⟩
      case S => walk_at "h_split"
theorem delete_H (x cl : Addr) (room gs ge st nd : Int) (A G B : List Int) (hgs : gs = A.length) (hge : ge = A.length + G.length) (h0 : 0 ≤ st) (h01 : st ≤ nd) (h02 : nd ≤ A.length + B.length) (hns : A.length + G.length + B.length ≤ 1000) :
    HSpec 2 398 [.ref x, .int st 0, .int nd 0] [(x, .inst 422 (gapF cl room gs ge)), (cl, .list (iv (A ++ G ++ B)))] fun K => ∀ (d : Addr) (gs' ge' : Int) (A' G' B' : List Int), gs' = A'.length → ge' = A'.length + G'.length → A' ++ B' = (A ++ B).take st.toNat ++ (A ++ B).drop nd.toNat → A'.length + G'.length + B'.length ≤ 1000 →
      K (.ref d) [(d, .list (iv (((A ++ B).drop st.toNat).take (nd.toNat - st.toNat)))), (x, .inst 422 (gapF cl room gs' ge')), (cl, .list (iv (A' ++ G' ++ B')))] := by
  obtain ⟨s, rfl⟩ := Int.eq_ofNat_of_zero_le h0
  obtain ⟨e, rfl⟩ := Int.eq_ofNat_of_zero_le (Int.le_trans h0 h01)
  have hse : s ≤ e := Int.ofNat_le.mp h01
  have hel : e ≤ (A ++ B).length := by rw [List.length_append]; exact Int.ofNat_le.mp h02
  have hsl := Nat.le_trans hse hel
  obtain ⟨r, hr⟩ := Nat.exists_eq_add_of_le hel
  obtain ⟨r', hr'⟩ := Nat.exists_eq_add_of_le hsl
  have hTd : ((A ++ B).drop e).length = r := by rw [List.length_drop, hr, Nat.add_sub_cancel_left]
  have hTd' : ((A ++ B).drop s).length = r' := by rw [List.length_drop, hr', Nat.add_sub_cancel_left]
  have hns' : (A ++ B).length + G.length ≤ 1000 := by rw [List.length_append, Nat.add_right_comm]; exact hns
  simp only [Int.toNat_natCast]
  refine' HSpec.intro [sN "self", sN "start", sN "end"] [sN "gone"] ?ho ?hcd ?hb ?ml ?hn ?hco ?hgen ?hk ?hcell ?body
  walk_at "h_intro"
  case hb => exact arity3 fun _ _ _ => rfl
  case body =>
  intro c K hK
  refine' X.assignE rfl ?_
  refine' Ex.meth (codes_H x cl room gs ge s e A G B hgs hge h0 h01 h02 hns) ?ho ?hm ?ha ?Sp ?hns ?hno ?h1 ?h2 ?h3 ?hk ?hl ?he ?hp
  walk_at "h_meth"
  case hp =>
  intro d
  rw [Int.toNat_natCast, Int.toNat_natCast]
  (dsimp only [List.cons_append, List.nil_append])
  refine' ⟨_, ?sl1, ?k1⟩
  case sl1 => walk_at "h_setl"
  case k1 =>
  generalize hW : iv (((A ++ B).drop s).take (e - s)) = W at hK ⊢
  clear hW
  have key : ∀ (A' G' B' : List Int), A' ++ B' = A ++ B → A'.length + G'.length + B'.length ≤ 1000 → s ≤ A'.length → A'.length ≤ e → ∀ gs' ge' : Int, gs' = A'.length → ge' = A'.length + G'.length → K (.ref d) [(d, .list W), (x, .inst 422 (gapF cl room s (ge' + e - gs'))), (cl, .list (iv (A' ++ G' ++ B')))] := by
    intro A' G' B' e1 hl hs hn gs' ge' e2 e3
    obtain ⟨u, hu⟩ := Nat.exists_eq_add_of_le hs
    obtain ⟨v, hv⟩ := Nat.exists_eq_add_of_le hn
    have hvB : v ≤ B'.length := by
      rw [← e1, List.length_append, hv] at hel
      exact Nat.le_of_add_le_add_left hel
    obtain ⟨y, hy⟩ := Nat.exists_eq_add_of_le hvB
    obtain ⟨f1, f2, f3⟩ := dl_post A' G' B' s e hs hn (by rw [hv]; exact Nat.add_le_add_left hvB _)
    have hev : e - A'.length = v := by rw [hv, Nat.add_sub_cancel_left]
    rw [hev] at f1 f3
    have l1 : (A'.take s).length = s := List.length_take_of_le hs
    have l2 : (A'.drop s ++ G' ++ B'.take v).length = u + G'.length + v := by rw [List.length_append, List.length_append, List.length_drop, hu, Nat.add_sub_cancel_left, List.length_take_of_le hvB]
    have l3 : (B'.drop v).length = y := by rw [List.length_drop, hy, Nat.add_sub_cancel_left]
    rw [f1]
    refine hK d _ _ _ _ _ ?_ ?_ (by rw [← e1, f2, f3]) ?_
    · rw [l1]
    · rw [l1, l2, e2, e3, hv, hu]; clear hK hl hel hsl hse hns hns' hgs hge; lia
    · rw [l1, l2, l3]; rw [hu, hy] at hl; clear hK hel hsl hse hns hns' hgs hge; lia
  refine' X.ite ?t9 ?y9 ?n9
  case t9 => walk_at "h_ts"
  case y9 =>
    intro hy
    refine' X.expr rfl ?_
    refine' Ex.meth (move_H x cl room gs ge e A G B hgs hge (Int.le_trans h0 h01) h02 hns) ?ho ?hm ?ha ?Sp ?hns ?hno ?h1 ?h2 ?h3 ?hk ?hl ?he ?hp
    walk_at "h_meth"
    case hp =>
    intro G1 g1
    rw [Int.toNat_natCast]
    (dsimp only [List.cons_append, List.nil_append])
    refine' X.nilT ?_
    refine' X.iteF (Ts.to ?xt2 ?xe2) ?xk2
    case xt2 => walk_at "h_ts"
    case xe2 => exact (decide_eq_false (Int.not_lt.mpr h01))
    case xk2 =>
    refine' X.nilT ?_
    walk_at "h_setattr"
    case k =>
    walk_at "h_setattr"
    case k =>
    have lt : ((A ++ B).take e).length = e := List.length_take_of_le hel
    refine' X.ret (led' := _) ?h ?S (key ((A ++ B).take e) G1 ((A ++ B).drop e) (List.take_append_drop _ _) ?k1 ?k2 ?k3 e (e + G.length) ?k4 ?k5)
    case h => walk_at "h_ev"
    case S => walk_at "h_split"
    case k1 => rw [lt, hTd, g1, Nat.add_right_comm, ← hr]; exact hns'
    case k2 => rw [lt]; exact hse
    case k3 => rw [lt]; exact Nat.le_refl _
    case k4 => rw [lt]
    case k5 => rw [lt, g1]
  case n9 =>
    intro hn
    refine' X.nilT ?_
    refine' X.ite ?t8 ?y8 ?n8
    case t8 => walk_at "h_ts"
    case y8 =>
      intro hy
      refine' X.expr rfl ?_
      refine' Ex.meth (move_H x cl room gs ge s A G B hgs hge h0 (Int.le_trans h01 h02) hns) ?ho ?hm ?ha ?Sp ?hns ?hno ?h1 ?h2 ?h3 ?hk ?hl ?he ?hp
      walk_at "h_meth"
      case hp =>
      intro G1 g1
      rw [Int.toNat_natCast]
      (dsimp only [List.cons_append, List.nil_append])
      refine' X.nilT ?_
      walk_at "h_setattr"
      case k =>
      walk_at "h_setattr"
      case k =>
      have lt : ((A ++ B).take s).length = s := List.length_take_of_le hsl
      refine' X.ret (led' := _) ?h2 ?S2 (key ((A ++ B).take s) G1 ((A ++ B).drop s) (List.take_append_drop _ _) ?k1 ?k2 ?k3 s (s + G.length) ?k4 ?k5)
      case h2 => walk_at "h_ev"
      case S2 => walk_at "h_split"
      case k1 => rw [lt, hTd', g1, Nat.add_right_comm, ← hr']; exact hns'
      case k2 => rw [lt]; exact Nat.le_refl _
      case k3 => rw [lt]; exact hse
      case k4 => rw [lt]
      case k5 => rw [lt, g1]
    case n8 =>
      intro hn2
      refine' X.nilT ?_
      walk_at "h_setattr"
      case k =>
      walk_at "h_setattr"
      case k =>
      refine' X.ret (led' := _) ?h3 ?S3 (key A G B rfl hns ?k1 ?k2 gs ge hgs hge)
      case h3 => walk_at "h_ev"
      case S3 => walk_at "h_split"
      case k1 => exact Int.ofNat_le.mp (hgs ▸ Int.not_lt.mp hn2)
      case k2 => exact Int.ofNat_le.mp (hgs ▸ Int.not_lt.mp hn)
theorem gapinit_H (x cr : Addr) (room : Int) (h0 : 0 ≤ room) (h1 : room ≤ 100) :
    HSpec 1 349 [.ref x, .ref cr, .int room 0] [(x, .inst 422 []), (cr, .list [])] fun K => ∀ cl : Addr, K .none [(x, .inst 422 (gapF cl room 0 room)), (cl, .list (iv (List.replicate room.toNat 0)))] := by
  refine' HSpec.intro [sN "self", sN "codes", sN "room"] [] ?ho ?hcd ?hb ?ml ?hn ?hco ?hgen ?hk ?hcell ?body
  walk_at "h_intro"
  case hb => exact arity3 fun _ _ _ => rfl
  case body =>
  intro c K hK
  walk_at "h_newattr"
  case k =>
  refine' X.newattr rfl (Ex.bin (Ex.copy ?a ?m ?z0 rfl ?g ?n fun D => Ex.bin (Ex.list (.cons rfl Ev.int .nil) rfl fun d => Ex.ev ?b (Opn.rep ?m2 h0 ?z2 fun d2 => Opn.cat ?m3 ?m4 ?z3 fun d4 => ?k))))
  case a => walk_at "h_ev"
  case m => walk_at "h_mem"
  case z0 => exact Nat.zero_le _
  case g => decide +kernel
  case n => k_is
  case b => walk_at "h_ev"
  case m2 => walk_at "h_mem"
  case z2 => omega
  case m3 => walk_at "h_mem"
  case m4 => walk_at "h_mem"
  case z3 => simp; omega
  case k =>
  walk_at "h_newa"
  case k =>
  walk_at "h_newattr"
  case k =>
  walk_at "h_newattr"
  case k =>
  (dsimp only [List.nil_append, List.length_nil])
  rw [show ((0 : Nat) : Int) = 0 from rfl, Int.zero_add]
  refine' X.finF ?S (hK d4)
  case S => walk_at "h_split"
end
section
open PySem PySem.W PySem.Calls PyProof.Rows PySem.Spec
set_option maxHeartbeats 1000000
theorem numbers_H (mx rd : Addr) (kvs : List (Int × Value)) (hz : Nat.ble kvs.length 60 = true) (ha : (kvs.map (·.1)).Pairwise (· ≤ ·)) :
    HSpec 1 522 [.ref mx] [(mx, .inst 567 (mksF rd)), (rd, .idict kvs)] fun K => ∀ D : Addr, K (.ref D) [(D, .list (iv (kvs.map (·.1)))), (mx, .inst 567 (mksF rd)), (rd, .idict kvs)] := by
  refine' HSpec.intro [sN "self"] [] ?ho ?hcd ?hb ?ml ?hn ?hco ?hgen ?hk ?hcell ?body
  walk_at "h_intro"
  case hb => exact arity1 fun _ => rfl
  case body =>
  intro c K hK
  refine' X.retE (Ex.sorted ?e ?m hz ha rfl ?g ?n hK)
  case e => walk_at "h_ev"
  case m => walk_at "h_mem"
  case g => decide +kernel
  case n => k_is
theorem inserted_H (mx rd : Addr) (b : Value) (ms : List MQ) (st nd : Int) (bf : Bool) (hb : handedIn b = true) (hz : Nat.ble ms.length 60 = true) (ha : MsAsc ms) :
    HSpec 2 550 [.ref mx, .int st 0, .int nd 0, .bool bf] (mkL mx rd b ms) fun K => K .none (mkL mx rd b (ms.map (adjM (insAdj st nd bf)))) := by
  have hz' : Nat.ble (kvM ms).length 60 = true := by rw [List.length_map]; exact hz
  refine' HSpec.intro [sN "self", sN "start", sN "end", sN "is_before"] [sN "number", sN "marker"] ?ho ?hcd ?hb ?ml ?hn ?hco ?hgen ?hk ?hcell ?body
  walk_at "h_intro"
  case hb => exact arity4 fun _ _ _ _ => rfl
  case body =>
  intro c K hK
  refine' X.forL (MkInv (fun u1 u2 => [(sN "self", some (.ref mx)), (sN "start", some (.int st 0)), (sN "end", some (.int nd 0)), (sN "is_before", some (.bool bf)), (sN "number", u1), (sN "marker", u2)]) mx rd b ms (insAdj st nd bf)) (Ex.meth (numbers_H mx rd (kvM ms) hz' (kv_asc ha)) ?ho ?hm ?ha ?Sp ?hns ?hno ?h1 ?h2 ?h3 ?hk ?hl ?he ?hp) ?hf
  walk_at "h_meth"
  case hf => exact fun _ => rfl
  case hp =>
  intro D
  refine' ⟨D, _, _, rfl, Rem.head, MkInv.init none none, ?b, ?c⟩
  case b =>
    intro lo led h
    obtain ⟨⟨u1, u2, rfl⟩, rfl⟩ := h.done
    refine' X.finF ?S (hK)
    case S => walk_at "h_split"
  case c =>
    intro I it o v r lo led h
    obtain ⟨u1, u2, dn, m, td, rfl, rfl, hm, rfl, st'⟩ := h.turn
    have hv := kv_get ha hm
    refine' ⟨_, Asg.name ?sl, ?k⟩
    case sl => walk_at "h_setl"
    case k =>
    refine' X.assign ?hx rfl (Ev.ditem ?e1 ?e2 ?e3 hv) ?k2
    case e1 => walk_at "h_ev"
    case e2 => walk_at "h_ev"
    case e3 => walk_at "h_mem"
    case hx => walk_at "h_setl"
    case k2 =>
    refine' X.iteB ?t ?y ?n
    case t => walk_at "h_ts"
    case y =>
      intro hy
      walk_at "h_setattr"
      case k =>
      refine' X.nilT (X.nil ⟨_, ?S, st' _ _ _ (if_pos hy).symm⟩)
      case S => walk_at "h_split"
    case n =>
      intro hn
      refine' X.nilT (X.nil ⟨_, ?S2, st' _ _ _ (if_neg (by rw [hn]; exact Bool.false_ne_true)).symm⟩)
      case S2 => walk_at "h_split"
theorem deleted_H (mx rd : Addr) (b : Value) (ms : List MQ) (st nd : Int) (hb : handedIn b = true) (hz : Nat.ble ms.length 60 = true) (ha : MsAsc ms) :
    HSpec 2 557 [.ref mx, .int st 0, .int nd 0] (mkL mx rd b ms) fun K => K .none (mkL mx rd b (ms.map (adjM (fun _ => delAdj st nd)))) := by
  have hz' : Nat.ble (kvM ms).length 60 = true := by rw [List.length_map]; exact hz
  refine' HSpec.intro [sN "self", sN "start", sN "end"] [sN "number", sN "marker"] ?ho ?hcd ?hb ?ml ?hn ?hco ?hgen ?hk ?hcell ?body
  walk_at "h_intro"
  case hb => exact arity3 fun _ _ _ => rfl
  case body =>
  intro c K hK
  refine' X.forL (MkInv (fun u1 u2 => [(sN "self", some (.ref mx)), (sN "start", some (.int st 0)), (sN "end", some (.int nd 0)), (sN "number", u1), (sN "marker", u2)]) mx rd b ms (fun _ => delAdj st nd)) (Ex.meth (numbers_H mx rd (kvM ms) hz' (kv_asc ha)) ?ho ?hm ?ha ?Sp ?hns ?hno ?h1 ?h2 ?h3 ?hk ?hl ?he ?hp) ?hf
  walk_at "h_meth"
  case hf => exact fun _ => rfl
  case hp =>
  intro D
  refine' ⟨D, _, _, rfl, Rem.head, MkInv.init none none, ?b, ?c⟩
  case b =>
    intro lo led h
    obtain ⟨⟨u1, u2, rfl⟩, rfl⟩ := h.done
    refine' X.finF ?S (hK)
    case S => walk_at "h_split"
  case c =>
    intro I it o v r lo led h
    obtain ⟨u1, u2, dn, m, td, rfl, rfl, hm, rfl, st'⟩ := h.turn
    have hv := kv_get ha hm
    refine' ⟨_, Asg.name ?sl, ?k⟩
    case sl => walk_at "h_setl"
    case k =>
    refine' X.assign ?hx rfl (Ev.ditem ?e1 ?e2 ?e3 hv) ?k2
    case e1 => walk_at "h_ev"
    case e2 => walk_at "h_ev"
    case e3 => walk_at "h_mem"
    case hx => walk_at "h_setl"
    case k2 =>
    refine' X.ite ?t ?y ?n
    case t => walk_at "h_ts"
    case y =>
      intro hy
      walk_at "h_setattr"
      case k =>
      refine' X.nilT (X.nil ⟨_, ?S, st' _ _ _ (if_pos hy).symm⟩)
      case S => walk_at "h_split"
    case n =>
      intro hn
      refine' X.ite ?t2 ?y2 ?n2
      case t2 => walk_at "h_ts"
      case y2 =>
        intro hy2
        walk_at "h_setattr"
        case k =>
        refine' X.nilT (X.nilT (X.nil ⟨_, ?S2, st' _ _ _ ((if_neg hn).trans (if_pos hy2)).symm⟩))
        case S2 => walk_at "h_split"
      case n2 =>
        intro hn2
        refine' X.nilT (X.nilT (X.nil ⟨_, ?S3, st' _ _ _ ((if_neg hn).trans (if_neg hn2)).symm⟩))
        case S3 => walk_at "h_split"
theorem replaced_H (mx rd : Addr) (b : Value) (ms : List MQ) (st nd mn : Int) (hb : handedIn b = true) (hz : Nat.ble ms.length 60 = true) (ha : MsAsc ms) :
    HSpec 2 564 [.ref mx, .int st 0, .int nd 0, .int mn 0] (mkL mx rd b ms) fun K => K .none (mkL mx rd b (ms.map (adjM (fun _ => repAdj st nd mn)))) := by
  have hz' : Nat.ble (kvM ms).length 60 = true := by rw [List.length_map]; exact hz
  refine' HSpec.intro [sN "self", sN "start", sN "end", sN "many"] [sN "number", sN "marker"] ?ho ?hcd ?hb ?ml ?hn ?hco ?hgen ?hk ?hcell ?body
  walk_at "h_intro"
  case hb => exact arity4 fun _ _ _ _ => rfl
  case body =>
  intro c K hK
  refine' X.forL (MkInv (fun u1 u2 => [(sN "self", some (.ref mx)), (sN "start", some (.int st 0)), (sN "end", some (.int nd 0)), (sN "many", some (.int mn 0)), (sN "number", u1), (sN "marker", u2)]) mx rd b ms (fun _ => repAdj st nd mn)) (Ex.meth (numbers_H mx rd (kvM ms) hz' (kv_asc ha)) ?ho ?hm ?ha ?Sp ?hns ?hno ?h1 ?h2 ?h3 ?hk ?hl ?he ?hp) ?hf
  walk_at "h_meth"
  case hf => exact fun _ => rfl
  case hp =>
  intro D
  refine' ⟨D, _, _, rfl, Rem.head, MkInv.init none none, ?b, ?c⟩
  case b =>
    intro lo led h
    obtain ⟨⟨u1, u2, rfl⟩, rfl⟩ := h.done
    refine' X.finF ?S (hK)
    case S => walk_at "h_split"
  case c =>
    intro I it o v r lo led h
    obtain ⟨u1, u2, dn, m, td, rfl, rfl, hm, rfl, st'⟩ := h.turn
    have hv := kv_get ha hm
    refine' ⟨_, Asg.name ?sl, ?k⟩
    case sl => walk_at "h_setl"
    case k =>
    refine' X.assign ?hx rfl (Ev.ditem ?e1 ?e2 ?e3 hv) ?k2
    case e1 => walk_at "h_ev"
    case e2 => walk_at "h_ev"
    case e3 => walk_at "h_mem"
    case hx => walk_at "h_setl"
    case k2 =>
    refine' X.ite ?t ?y ?n
    case t => walk_at "h_ts"
    case y =>
      intro hy
      walk_at "h_setattr"
      case k =>
      refine' X.nilT (X.nil ⟨_, ?S, st' _ _ _ (if_pos hy).symm⟩)
      case S => walk_at "h_split"
    case n =>
      intro hn
      refine' X.ite ?t2 ?y2 ?n2
      case t2 => walk_at "h_ts"
      case y2 =>
        intro hy2
        walk_at "h_setattr"
        case k =>
        refine' X.nilT (X.nilT (X.nil ⟨_, ?S2, st' _ _ _ ((if_neg hn).trans (if_pos hy2)).symm⟩))
        case S2 => walk_at "h_split"
      case n2 =>
        intro hn2
        refine' X.nilT (X.nilT (X.nil ⟨_, ?S3, st' _ _ _ ((if_neg hn).trans (if_neg hn2)).symm⟩))
        case S3 => walk_at "h_split"
end
section
open PySem PySem.W PySem.Calls PyProof.Rows PySem.Spec
set_option maxHeartbeats 1000000
theorem or2F {a b : Prop} {da : Decidable a} {db : Decidable b} (h1 : ¬ a) (h2 : ¬ b) : (decide a || (decide b || false)) = false := by rw [decide_eq_false h1, decide_eq_false h2]; rfl
theorem mdist_H (st nd y : Int) (adv : Bool) : HSpec 1 286 [.int y 0, .int st 0, .int nd 0, .bool adv] [] fun K => K (.int (mdist st nd adv y) 0) [] := by
  refine' HSpec.intro [sN "place", sN "start", sN "end", sN "is_advancing"] [] ?ho ?hcd ?hb ?ml ?hn ?hco ?hgen ?hk ?hcell ?body
  walk_at "h_intro"
  case hb => exact arity4 fun _ _ _ _ => rfl
  case body =>
  intro c K hK
  refine' X.iteB ?t ?y ?n
  case t => walk_at "h_ts"
  case y =>
    intro hy
    rw [mdist, if_pos hy] at hK
    refine' X.ret ?h ?S (hK)
    case h => walk_at "h_ev"
    case S => walk_at "h_split"
  case n =>
    intro hn
    rw [mdist, if_neg (by rw [hn]; exact Bool.false_ne_true)] at hK
    refine' X.nilT ?_
    cases adv
    case false =>
      rw [if_neg Bool.false_ne_true] at hK
      refine' X.ret ?h ?S (hK)
      case h => walk_at "h_ev"
      case S => walk_at "h_split"
    case true =>
      rw [if_pos rfl] at hK
      refine' X.ret ?h ?S (hK)
      case h => walk_at "h_ev"
      case S => walk_at "h_split"
theorem mkinit_H (p : Addr) (i : Int) (adv : Bool) : HSpec 1 475 [.ref p, .int i 0, .bool adv] [(p, .inst 499 [])] fun K => K .none [(p, .inst 499 (markF i adv .none 0))] := by
  refine' HSpec.intro [sN "self", sN "number", sN "advances"] [] ?ho ?hcd ?hb ?ml ?hn ?hco ?hgen ?hk ?hcell ?body
  walk_at "h_intro"
  case hb => exact arity3 fun _ _ _ => rfl
  case body =>
  intro c K hK
  walk_at "h_newattr"
  case k =>
  walk_at "h_newattr"
  case k =>
  walk_at "h_newattr"
  case k =>
  walk_at "h_newattr"
  case k =>
  refine' X.finF ?S (hK)
  case S => walk_at "h_split"
theorem mksinit_H (mx : Addr) : HSpec 1 515 [.ref mx] [(mx, .inst 567 [])] fun K => ∀ d : Addr, K .none [(mx, .inst 567 (mksF d)), (d, .idict [])] := by
  refine' HSpec.intro [sN "self"] [] ?ho ?hcd ?hb ?ml ?hn ?hco ?hgen ?hk ?hcell ?body
  walk_at "h_intro"
  case hb => exact arity1 fun _ => rfl
  case body =>
  intro c K hK
  refine' X.newattr rfl (Ex.dict0 fun d => ?_)
  walk_at "h_newa"
  case k =>
  refine' X.finF ?S (hK d)
  case S => walk_at "h_split"
theorem put_H (mx rd p : Addr) (kvs : List (Int × Value)) (i y0 y : Int) (adv : Bool) (b : Value) (hz : Nat.ble kvs.length 1000 = true) : HSpec 1 529 [.ref mx, .ref p, .int y 0] [(mx, .inst 567 (mksF rd)), (rd, .idict kvs), (p, .inst 499 (markF i adv b y0))] fun K => K .none [(mx, .inst 567 (mksF rd)), (rd, .idict (stored kvs i (.ref p))), (p, .inst 499 (markF i adv b y))] := by
  refine' HSpec.intro [sN "self", sN "marker", sN "position"] [] ?ho ?hcd ?hb ?ml ?hn ?hco ?hgen ?hk ?hcell ?body
  walk_at "h_intro"
  case hb => exact arity3 fun _ _ _ => rfl
  case body =>
  intro c K hK
  refine' X.setD ?hv ?ho ?hx ?R hz rfl ?k
  case hv => walk_at "h_ev"
  case ho => walk_at "h_ev"
  case hx => walk_at "h_ev"
  case R => walk_at "h_rep"
  case k =>
  walk_at "h_setattr"
  case k =>
  refine' X.finF ?S (hK)
  case S => walk_at "h_split"
noncomputable abbrev undF (rl : Addr) (nt : Value) : Fields := [(sN "rows", .ref rl), (sN "dropped", .int 0 0), (sN "is_on", .bool true), (sN "point_before", .none), (sN "noted_tick", nt)]
theorem undinit_H (u : Addr) : HSpec 1 204 [.ref u] [(u, .inst 275 [])] fun K => ∀ rl : Addr, K .none [(u, .inst 275 (undF rl .none)), (rl, .list [])] := by
  refine' HSpec.intro [sN "self"] [] ?ho ?hcd ?hb ?ml ?hn ?hco ?hgen ?hk ?hcell ?body
  walk_at "h_intro"
  case hb => exact arity1 fun _ => rfl
  case body =>
  intro c K hK
  refine' X.newattr rfl (Ex.list .nil rfl fun d => ?_)
  walk_at "h_newa"
  case k =>
  walk_at "h_newattr"
  case k =>
  walk_at "h_newattr"
  case k =>
  walk_at "h_newattr"
  case k =>
  walk_at "h_newattr"
  case k =>
  refine' X.finF ?S (hK d)
  case S => walk_at "h_split"
theorem recinit_H (rc : Addr) : HSpec 3 724 [.ref rc] [(rc, .inst 746 [])] fun K => ∀ u rl : Addr, K .none [(rc, .inst 746 [(sN "list", .ref u)]), (u, .inst 275 (undF rl .none)), (rl, .list [])] := by
  refine' HSpec.intro [sN "self"] [] ?ho ?hcd ?hb ?ml ?hn ?hco ?hgen ?hk ?hcell ?body
  walk_at "h_intro"
  case hb => exact arity1 fun _ => rfl
  case body =>
  intro c K hK
  refine' X.newattr rfl (Ex.new0 (fI := 204) ?hn ?hk ?hg ?hm ?hi ?hf fun x => ⟨1, [], _, _, undinit_H x, rfl, .nil, fun rl => ⟨rfl, ?_⟩⟩)
  walk_at "h_new"
  (dsimp only [List.cons_append, List.nil_append])
  walk_at "h_newa"
  case k =>
  refine' X.finF ?S (hK x rl)
  case S => walk_at "h_split"
theorem pieceinit_H (p cr rr : Addr) : HSpec 1 703 [.ref p, .ref cr, .ref rr] [(p, .inst 706 [])] fun K => K .none [(p, .inst 706 [(sN "codes", .ref cr), (sN "runs", .ref rr)])] := by
  refine' HSpec.intro [sN "self", sN "codes", sN "runs"] [] ?ho ?hcd ?hb ?ml ?hn ?hco ?hgen ?hk ?hcell ?body
  walk_at "h_intro"
  case hb => exact arity3 fun _ _ _ => rfl
  case body =>
  intro c K hK
  walk_at "h_newattr"
  case k =>
  walk_at "h_newattr"
  case k =>
  refine' X.finF ?S (hK)
  case S => walk_at "h_split"
theorem ismod_H (b x mx ln : Addr) (un : Value) (pt bv zv nk ck sv : Int) : HSpec 1 656 [.ref b] [(b, .inst 673 (bufF x mx ln un pt bv zv nk ck sv))] fun K => K (.bool (decide (sv < nk))) [(b, .inst 673 (bufF x mx ln un pt bv zv nk ck sv))] := by
  refine' HSpec.intro [sN "self"] [] ?ho ?hcd ?hb ?ml ?hn ?hco ?hgen ?hk ?hcell ?body
  walk_at "h_intro"
  case hb => exact arity1 fun _ => rfl
  case body =>
  intro c K hK
  refine' X.ret ?h ?S (hK)
  case h => walk_at "h_ev"
  case S => walk_at "h_split"
theorem setmod_H (b x mx ln : Addr) (un : Value) (pt bv zv nk ck sv : Int) : HSpec 1 663 [.ref b, .bool false] [(b, .inst 673 (bufF x mx ln un pt bv zv nk ck sv))] fun K => K .none [(b, .inst 673 (bufF x mx ln un pt bv zv nk ck nk))] := by
  refine' HSpec.intro [sN "self", sN "is_so"] [] ?ho ?hcd ?hb ?ml ?hn ?hco ?hgen ?hk ?hcell ?body
  walk_at "h_intro"
  case hb => exact arity2 fun _ _ => rfl
  case body =>
  intro c K hK
  refine' X.iteT (Ts.to ?xt1 ?xe1) ?xk1
  case xt1 => walk_at "h_ts"
  case xe1 => exact rfl
  case xk1 =>
  walk_at "h_setattr"
  case k =>
  refine' X.nilT ?_
  refine' X.finF ?S (hK)
  case S => walk_at "h_split"
theorem touch_H (b x mx ln : Addr) (un : Value) (pt bv zv nk ck sv : Int) : HSpec 1 670 [.ref b, .bool true] [(b, .inst 673 (bufF x mx ln un pt bv zv nk ck sv))] fun K => K .none [(b, .inst 673 (bufF x mx ln un pt bv zv (nk + 1) (nk + 1) sv))] := by
  refine' HSpec.intro [sN "self", sN "are_codes"] [] ?ho ?hcd ?hb ?ml ?hn ?hco ?hgen ?hk ?hcell ?body
  walk_at "h_intro"
  case hb => exact arity2 fun _ _ => rfl
  case body =>
  intro c K hK
  walk_at "h_setattr"
  case k =>
  refine' X.iteT (Ts.to ?xt2 ?xe2) ?xk2
  case xt2 => walk_at "h_ts"
  case xe2 => exact rfl
  case xk2 =>
  walk_at "h_setattr"
  case k =>
  refine' X.nilT ?_
  refine' X.finF ?S (hK)
  case S => walk_at "h_split"
theorem goto_H (b x mx ln : Addr) (un : Value) (pt bv zv nk ck sv pl : Int) (h1 : bv ≤ pl) (h2 : pl ≤ zv) : HSpec 1 642 [.ref b, .int pl 0] [(b, .inst 673 (bufF x mx ln un pt bv zv nk ck sv))] fun K => K (.int pl 0) [(b, .inst 673 (bufF x mx ln un pl bv zv nk ck sv))] := by
  refine' HSpec.intro [sN "self", sN "place"] [] ?ho ?hcd ?hb ?ml ?hn ?hco ?hgen ?hk ?hcell ?body
  walk_at "h_intro"
  case hb => exact arity2 fun _ _ => rfl
  case body =>
  intro c K hK
  walk_at "h_setattr"
  case k =>
  rw [Int.max_eq_left h1, Int.min_eq_left h2]
  refine' X.ret ?h ?S (hK)
  case h => walk_at "h_ev"
  case S => walk_at "h_split"
theorem bcodes_H (b x cl mx ln : Addr) (un : Value) (pt bv zv nk ck sv room gs ge st nd : Int) (A G B : List Int) (hgs : gs = A.length) (hge : ge = A.length + G.length) (h0 : 0 ≤ st - 1) (h01 : st - 1 ≤ nd - 1) (h02 : nd - 1 ≤ A.length + B.length) (hns : A.length + G.length + B.length ≤ 1000) :
    HSpec 2 635 [.ref b, .int st 0, .int nd 0] [(b, .inst 673 (bufF x mx ln un pt bv zv nk ck sv)), (x, .inst 422 (gapF cl room gs ge)), (cl, .list (iv (A ++ G ++ B)))] fun K => ∀ d : Addr, K (.ref d) [(d, .list (iv (((A ++ B).drop (st - 1).toNat).take ((nd - 1).toNat - (st - 1).toNat)))), (b, .inst 673 (bufF x mx ln un pt bv zv nk ck sv)), (x, .inst 422 (gapF cl room gs ge)), (cl, .list (iv (A ++ G ++ B)))] := by
  refine' HSpec.intro [sN "self", sN "start", sN "end"] [] ?ho ?hcd ?hb ?ml ?hn ?hco ?hgen ?hk ?hcell ?body
  walk_at "h_intro"
  case hb => exact arity3 fun _ _ _ => rfl
  case body =>
  intro c K hK
  refine' X.retS ?_
  refine' Ex.meth (codes_H x cl room gs ge (st - 1) (nd - 1) A G B hgs hge h0 h01 h02 hns) ?ho ?hm ?ha ?Sp ?hns ?hno ?h1 ?h2 ?h3 ?hk ?hl ?he ?hp
  walk_at "h_meth"
  case hp =>
  intro d
  (dsimp only [List.cons_append, List.nil_append])
  refine' ⟨_, _, ?S, hK d⟩
  case S => walk_at "h_split"
theorem bsize_H (b x cl mx ln : Addr) (un : Value) (pt bv zv nk ck sv room gs ge : Int) (vs : List Value) (hz : vs.length ≤ 1000) :
    HSpec 2 621 [.ref b] [(b, .inst 673 (bufF x mx ln un pt bv zv nk ck sv)), (x, .inst 422 (gapF cl room gs ge)), (cl, .list vs)] fun K => K (.int (vs.length - ge + gs) 0) [(b, .inst 673 (bufF x mx ln un pt bv zv nk ck sv)), (x, .inst 422 (gapF cl room gs ge)), (cl, .list vs)] := by
  refine' HSpec.intro [sN "self"] [] ?ho ?hcd ?hb ?ml ?hn ?hco ?hgen ?hk ?hcell ?body
  walk_at "h_intro"
  case hb => exact arity1 fun _ => rfl
  case body =>
  intro c K hK
  refine' X.retS ?_
  refine' Ex.meth (size_H x cl room gs ge vs hz) ?ho ?hm ?ha ?Sp ?hns ?hno ?h1 ?h2 ?h3 ?hk ?hl ?he ?hp
  walk_at "h_meth"
  case hp =>
  (dsimp only [List.cons_append, List.nil_append])
  refine' ⟨_, _, ?S, hK⟩
  case S => walk_at "h_split"
theorem needw_H (b x mx ln : Addr) (un : Value) (pt bv zv nk ck sv : Int) : HSpec 1 48 [.ref b] [(b, .inst 673 (bufF x mx ln un pt bv zv nk ck sv))] fun K => K .none [(b, .inst 673 (bufF x mx ln un pt bv zv nk ck sv))] := by
  refine' HSpec.intro [sN "buffer"] [] ?ho ?hcd ?hb ?ml ?hn ?hco ?hgen ?hk ?hcell ?body
  walk_at "h_intro"
  case hb => exact arity1 fun _ => rfl
  case body =>
  intro c K hK
  refine' X.iteF (Ts.to ?xt3 ?xe3) ?xk3
  case xt3 => walk_at "h_ts"
  case xe3 => exact rfl
  case xk3 =>
  refine' X.nilT ?_
  refine' X.finF ?S (hK)
  case S => walk_at "h_split"
theorem reached_H (b x mx ln : Addr) (un : Value) (pt bv zv nk ck sv st nd : Int) (h1 : bv ≤ st) (h2 : st ≤ nd) (h3 : nd ≤ zv) : HSpec 1 55 [.ref b, .int st 0, .int nd 0] [(b, .inst 673 (bufF x mx ln un pt bv zv nk ck sv))] fun K => ∀ d : Addr, K (.ref d) [(d, .tup [.int st 0, .int nd 0]), (b, .inst 673 (bufF x mx ln un pt bv zv nk ck sv))] := by
  refine' HSpec.intro [sN "buffer", sN "start", sN "end"] [sN "low", sN "high"] ?ho ?hcd ?hb ?ml ?hn ?hco ?hgen ?hk ?hcell ?body
  walk_at "h_intro"
  case hb => exact arity3 fun _ _ _ => rfl
  case body =>
  intro c K hK
  refine' X.swap [sN "low", sN "high"] (Exs.evs ?ev ⟨?z, _, ?sn, ?k⟩) ?hs ?hw
  case ev => walk_at "h_evs"
  case z => exact Nat.le_of_ble_eq_true rfl
  case sn => walk_at "h_setns2"
  case hs => exact fun _ => rfl
  case hw => with_unfolding_all rfl
  case k =>
  rw [Int.max_eq_right h2, Int.min_eq_left h2]
  refine' X.iteF (Ts.to ?xt4 ?xe4) ?xk4
  case xt4 => walk_at "h_ts"
  case xe4 => exact (or2F (Int.not_lt.mpr h1) (Int.not_lt.mpr h3))
  case xk4 =>
  refine' X.nilT ?_
  refine' X.retS (Ex.tup ?ev2 ?z2 fun d => ⟨_, _, ?S, hK d⟩)
  case ev2 => walk_at "h_evs"
  case z2 => rfl
  case S => walk_at "h_split"
theorem tella_H (b x mx ln : Addr) (un : Value) (pt bv zv nk ck sv st nd : Int) : HSpec 1 62 [.ref b, .int st 0, .int nd 0] [(b, .inst 673 (bufF x mx ln un pt bv zv nk ck sv)), (ln, .list [])] fun K => K .none [(b, .inst 673 (bufF x mx ln un pt bv zv nk ck sv)), (ln, .list [])] := by
  refine' HSpec.intro [sN "buffer", sN "start", sN "end"] [sN "listener"] ?ho ?hcd ?hb ?ml ?hn ?hco ?hgen ?hk ?hcell ?body
  walk_at "h_intro"
  case hb => exact arity3 fun _ _ _ => rfl
  case body =>
  intro c K hK
  refine' X.forL (fun r lo led => r = [] ∧ lo = _ ∧ led = _) (Ex.copy ?e ?m ?z rfl ?g ?n fun D => ⟨D, _, _, rfl, Rem.head, ⟨rfl, rfl, rfl⟩, ?b, ?c⟩) ?hf
  case e => walk_at "h_ev"
  case m => walk_at "h_mem"
  case z => exact Nat.zero_le _
  case g => decide +kernel
  case n => k_is
  case hf => exact fun _ => rfl
  case c => rintro I it o v r lo led ⟨h, _⟩; cases h
  case b =>
    rintro lo led ⟨_, rfl, rfl⟩
    refine' X.finF ?S (hK)
    case S => walk_at "h_split"
theorem tellb_H (b x mx ln : Addr) (un : Value) (pt bv zv nk ck sv st nd ol : Int) : HSpec 2 69 [.ref b, .int st 0, .int nd 0, .int ol 0] [(b, .inst 673 (bufF x mx ln un pt bv zv nk ck sv)), (ln, .list [])] fun K => K .none [(b, .inst 673 (bufF x mx ln un pt bv zv (nk + 1) (nk + 1) sv)), (ln, .list [])] := by
  refine' HSpec.intro [sN "buffer", sN "start", sN "end", sN "old_length"] [sN "listener"] ?ho ?hcd ?hb ?ml ?hn ?hco ?hgen ?hk ?hcell ?body
  walk_at "h_intro"
  case hb => exact arity4 fun _ _ _ _ => rfl
  case body =>
  intro c K hK
  refine' X.expr rfl ?_
  refine' Ex.meth (touch_H b x mx ln un pt bv zv nk ck sv) ?ho ?hm ?ha ?Sp ?hns ?hno ?h1 ?h2 ?h3 ?hk ?hl ?he ?hp
  walk_at "h_meth"
  case hp =>
  (dsimp only [List.cons_append, List.nil_append])
  refine' X.forL (fun r lo led => r = [] ∧ lo = _ ∧ led = _) (Ex.copy ?e ?m ?z rfl ?g ?n fun D => ⟨D, _, _, rfl, Rem.head, ⟨rfl, rfl, rfl⟩, ?b, ?c⟩) ?hf
  case e => walk_at "h_ev"
  case m => walk_at "h_mem"
  case z => exact Nat.zero_le _
  case g => decide +kernel
  case n => k_is
  case hf => exact fun _ => rfl
  case c => rintro I it o v r lo led ⟨h, _⟩; cases h
  case b =>
    rintro lo led ⟨_, rfl, rfl⟩
    refine' X.finF ?S (hK)
    case S => walk_at "h_split"
theorem within_H (mx rd : Addr) (b : Value) (ms : List MQ) (st nd : Int) (hb : handedIn b = true) (hz : Nat.ble ms.length 60 = true) (ha : MsAsc ms) :
    HSpec 2 543 [.ref mx, .int st 0, .int nd 0] (mkL mx rd b ms) fun K => ∀ D : Addr, K (.ref D) ((D, .list ((ms.filter (inM st nd)).map fun m => Value.ref m.p)) :: mkL mx rd b ms) := by
  have hz' : Nat.ble (kvM ms).length 60 = true := by rw [List.length_map]; exact hz
  refine' HSpec.intro [sN "self", sN "start", sN "end"] [sN "found", sN "number"] ?ho ?hcd ?hb ?ml ?hn ?hco ?hgen ?hk ?hcell ?body
  walk_at "h_intro"
  case hb => exact arity3 fun _ _ _ => rfl
  case body =>
  intro c K hK
  refine' X.assignE rfl (Ex.list .nil rfl fun F0 => ⟨_, ?sl, ?k⟩)
  case sl => walk_at "h_setl"
  case k =>
  refine' X.forL (fun r lo led => ∃ u dn td, lo = [(sN "self", some (.ref mx)), (sN "start", some (.int st 0)), (sN "end", some (.int nd 0)), (sN "found", some (.ref F0)), (sN "number", u)] ∧ ms = dn ++ td ∧ r = td.map (fun m => Value.int m.i 0) ∧ led = (mx, .inst 567 (mksF rd)) :: (rd, .idict (kvM ms)) :: (F0, .list ((dn.filter (inM st nd)).map fun m => Value.ref m.p)) :: ms.map (mkA b)) (Ex.meth (numbers_H mx rd (kvM ms) hz' (kv_asc ha)) ?ho ?hm ?ha ?Sp ?hns ?hno ?h1 ?h2 ?h3 ?hk ?hl ?he ?hp) ?hf
  walk_at "h_meth"
  case hf => exact fun _ => rfl
  case hp =>
  intro D
  refine' ⟨D, _, _, rfl, Rem.head, ⟨none, [], ms, rfl, rfl, mks_keys ms, ?v⟩, ?b, ?c⟩
  case v => rfl
  case b =>
    rintro lo led ⟨u, dn, td, rfl, e1, e2, rfl⟩
    obtain rfl := List.map_eq_nil_iff.mp e2.symm
    rw [List.append_nil] at e1
    subst e1
    refine' X.ret ?h ?S (hK F0)
    case h => walk_at "h_ev"
    case S => walk_at "h_split"
  case c =>
    rintro I it o v r lo led ⟨u, dn, td, rfl, e1, e2, rfl⟩
    cases td with
    | nil => cases e2
    | cons m td =>
      cases e2
      have hmem : m ∈ ms := by rw [e1]; exact List.mem_append_right _ (.head _)
      have hv := kv_get ha hmem
      have ho : mkA b m ∈ ms.map (mkA b) := List.mem_map_of_mem hmem
      have hl : dn.length ≤ 60 := Nat.le_trans (by rw [e1, List.length_append]; exact Nat.le_add_right _ _) (Nat.le_of_ble_eq_true hz)
      refine' ⟨_, Asg.name ?sl, ?k⟩
      case sl => walk_at "h_setl"
      case k =>
      refine' X.iteB (Ts.chain ?a1 ?a2 ?a3 Cmp.le Cmp.le rfl) ?y ?n
      case a1 => walk_at "h_ev"
      case a2 => walk_at "h_ev"
      case a3 => (intro hp; walk_at "h_ev")
      case y =>
        intro hy
        refine' X.expr rfl ?_
        walk_at "h_append"
        case hz => exact Nat.le_trans (Nat.le_trans (by rw [List.length_map]; exact List.length_filter_le _ _) hl) (by decide)
        case k =>
        refine' X.nilT (X.nil ⟨_, ?S, _, dn ++ [m], td, rfl, by rw [e1, List.append_assoc]; rfl, rfl, ?e⟩)
        case S => walk_at "h_split"
        case e => rw [List.filter_append, List.map_append, List.filter_cons, if_pos (show inM st nd m = true from hy)]; rfl
      case n =>
        intro hn
        refine' X.nilT (X.nil ⟨_, ?S2, _, dn ++ [m], td, rfl, by rw [e1, List.append_assoc]; rfl, rfl, ?e2⟩)
        case S2 => walk_at "h_split"
        case e2 => rw [List.filter_append, List.map_append, List.filter_cons, if_neg (show ¬ inM st nd m = true by rw [show inM st nd m = false from hn]; exact Bool.false_ne_true), List.filter_nil, List.map_nil, List.append_nil]
end
open PySem PySem.W PySem.Calls PyProof.Rows PySem.Spec
local macro_rules | `(tactic| walk_at "h_ev2") => `(tactic| ((with_reducible refine' Ev.meth (ismod_H _ _ _ _ _ _ _ _ _ _ _) ?ho ?hm ?ha ?Sp ?hns ?hno ?h1 ?h2 ?h3 ?hk ?hl ?he); walk_at "h_meth"))
section
open PySem PySem.W PySem.Calls PyProof.Rows PySem.Spec PyProof.V PyProof
section
variable {prog : Program} {w : World} {A : Around} {s : Shared} {h₀ : Heap} {L : Addr} {m : Str → Option Value} {news : Led}
theorem compLoop_none {R : Result → Shared → Prop} {elt target iter : Expr} {ifs : List Expr} {scope : Scope} {pos : Pos} {it acc : Value} {env : Env}
    (h : wpAny (model prog w) A (pyNext it) (fun r s₁ => r = none ∧ R (.ok .next) s₁) (notedBy (model prog w) A env fun e s' => R (.error e) s') s) :
    codeAny (model prog w) A (.compLoop (.ListComp elt [⟨target, iter, ifs, 0⟩] scope pos) 0 it acc env) R s := by
  refine codeAny_loop rfl (fun _ s' => s' = s) (fun n s' hI => ?_) 0 rfl
  subst hI
  show wpAny _ A ((compTurn (.ListComp elt [⟨target, iter, ifs, 0⟩] scope pos) 0 it acc env).onRaise (fun x => do noteFrame x env; theTreesLotGoes x)) _ _ _
  refine wpAny_noted ?_
  rw [compTurn_list]
  refine wpAny_bind (wpAny_standAt (wpAny_bind (wpAny_mono h (fun r s₁ h₁ => ?_) fun _ _ h' => h')))
  obtain ⟨rfl, h₁⟩ := h₁
  exact wpAny_pure h₁

theorem Assign_ListComp_none {E : Value → Shared → Prop} {env : Env} {elt target iter : Expr} {ifs : List Expr} {scope : Scope} {cl : List (Str × Addr)} {pos spos py : Pos} {y : Str} {Q : Flow → Shared → Prop} (hLe : env.locals = L)
    (hsw : swapsWith (.ListComp elt [⟨target, iter, ifs, 0⟩] scope pos) (some (.Name y py)) spos.line env = pure true)
    (hclos : closureFor scope env = pure cl) (hcell : ∀ z ∈ scope.names, z.2 ≠ .cell) (hkind : scope.kind = .function)
    (hnames : ∀ z ∈ scope.names, z.2 = .local → scope.names.lookup z.1 = some .local)
    (hy : env.kindOf y = some .local) (hp : (env.scope.kind == .class || (env.scope.kind == .module && env.locals != env.globals)) = false)
    (h : wpAny (model prog w) A (eval iter env) (fun xv s₁ => ∃ (ax : Addr) (n : Nat) (news : Led) (m : Str → Option Value), xv = .ref ax ∧ A.handled = none ∧ Fr h₀ L s₁.heap m ∧ News h₀ L s₁.heap news ∧ (ax, listOf #[] n) ∈ news ∧
      ∀ D h' tk, Fr h₀ L h' (fun z => if z = y then some (.ref D) else m z) → News h₀ L h' ((D, listOf #[] 0) :: news) → (∀ p ∈ news, p.1 < D) → Q .next { s₁ with heap := h', toks := tk }) E s)
    (hs : ∀ x, foldedSetIterable iter env x = pure x := by intro _; rfl) :
    wpAny (model prog w) A (exec (.Assign [.Name y py] (.ListComp elt [⟨target, iter, ifs, 0⟩] scope pos) spos) env) Q E s := by
  subst hLe
  rw [exec_Assign_Name_used _ _ _ _ hsw]
  refine wpAny_bind (wpAny_standAt (wpAny_bind ?_))
  show wpAny _ A (do let _ ← comprehension (.ListComp elt [⟨target, iter, ifs, 0⟩] scope pos) scope env _ (newList []) false (eval iter env) (some (assign (.Name y py) env))) _ _ s
  refine wpAny_bind (wpAny_mono (wpAny_comprehension_free (use := some (assign (.Name y py) env)) (Q := fun _ s' => Q .next s') rfl hs hclos hkind hnames
    (wpAny_mono h (fun xv s₁ h₁ => ?_) fun _ _ e => e)) (fun _ s' hq => wpAny_pure (wpAny_pure hq)) fun _ _ e => e)
  obtain ⟨ax, n, news, m, rfl, hh, F, N, hm, fin⟩ := h₁
  have hax := N _ hm
  have hl : s₁.heap.IsList ax #[] := ⟨_, hax.1, rfl, n, rfl⟩
  have hlt : ax < s₁.heap.objs.size := Heap.lt_size hax.1
  have hne : ax ≠ s₁.heap.objs.size := Nat.ne_of_lt hlt
  refine wpAny_pyIter_list hl ?_
  refine wpAny_newObj_type (wpAny_newFunctionEnv hcell (by intro y hy; simp at hy) (fun h₁ hns₁ hsb₁ => ?_) hkind)
  dsimp only at hns₁ hsb₁ ⊢
  generalize hI : s₁.heap.push { cls := .type "list_iterator", data := .fields #[.ref ax, .int 0 0] } = H1 at hns₁ hsb₁ ⊢
  generalize hH2 : H1.push { cls := .type "list", dict := none, data := .seq ([] : List Value).toArray } = H2 at hns₁ hsb₁ ⊢
  have z1 : H1.objs.size = s₁.heap.objs.size + 1 := by rw [← hI, Heap.size_push]
  have z2 : H2.objs.size = s₁.heap.objs.size + 2 := by rw [← hH2, Heap.size_push, z1]
  have lt2 : ∀ b : Addr, b < s₁.heap.objs.size → b ≠ H2.objs.size := fun b hb => z2 ▸ Nat.ne_of_lt (Nat.lt_of_lt_of_le hb (Nat.le_add_right _ 2))
  have up : ∀ b o, s₁.heap.get? b = some o → h₁.get? b = some o := fun b o e => hsb₁.extBut b o (lt2 b (Heap.lt_size e)) (Heap.get?_push_of_some _ (hH2 ▸ Heap.get?_push_of_some _ (hI ▸ Heap.get?_push_of_some _ e)))
  have gI : h₁.get? s₁.heap.objs.size = some { cls := .type "list_iterator", data := .fields #[.ref ax, .int 0 0] } :=
    hsb₁.extBut _ _ (z2 ▸ Nat.ne_of_lt (Nat.lt_add_of_pos_right (by decide))) (Heap.get?_push_of_some _ (hH2 ▸ Heap.get?_push_of_some _ (hI ▸ Heap.get?_push_size _ rfl)))
  have gD : h₁.get? H1.objs.size = some (listOf #[] 0) :=
    hsb₁.extBut _ _ (by rw [z1, z2]; exact Nat.ne_of_lt (Nat.lt_succ_self _)) (Heap.get?_push_of_some _ (hH2 ▸ Heap.get?_push_size _ rfl))
  have hst : h₁.IsListIter s₁.heap.objs.size ax 0 ∧ h₁.IsList ax #[] := ⟨⟨_, gI, rfl, rfl⟩, hl.at fun o e => up _ o e⟩
  have W := Walks.list (prog := prog) (w := w) hh s₁.heap.objs.size ax hne #[]
  have fresh₀ : ∀ a, s₁.heap.objs.size ≤ a → h₀.get? a = none := fun a ha => by
    cases e : h₀.get? a with
    | none => rfl
    | some o' => exact absurd (Heap.lt_size (F.keep a o' e)) (Nat.not_lt.mpr ha)
  have loop : ∀ s₃ : Shared, s₃ = { s₁ with heap := h₁, toks := s₁.toks + ([] : List (Str × Value)).length } → ∀ cenv : Env, cenv.locals = H2.objs.size →
      codeAny (model prog w) A (.compLoop (.ListComp elt [⟨target, iter, ifs, 0⟩] scope pos) 0 (.ref s₁.heap.objs.size) (.ref H1.objs.size) cenv) (compPost (model prog w) A E (some (assign (.Name y py) env)) (fun _ s' => Q .next s') (.ref H1.objs.size) H2.objs.size) s₃ := by
    rintro s₃ rfl cenv hc
    refine compLoop_none (W.done _ _ _ hst fun h₂ tk hk => ⟨rfl, ?_⟩)
    have old : ∀ b : Addr, b ≠ s₁.heap.objs.size → ∀ o, h₁.get? b = some o → h₂.get? b = some o := fun b hb o e => hk b o (by simpa using hb) e
    have keep2 : ∀ b o, s₁.heap.get? b = some o → h₂.get? b = some o := fun b o e => old b (Nat.ne_of_lt (Heap.lt_size e)) o (up b o e)
    have F2 := F.keeps keep2
    show wpAny _ A (assign (.Name y py) env (.ref H1.objs.size)) _ _ _
    refine wpAny_assign_Name (wpAny_storeName_local hy F2.ns (fun h₃ hn₃ hs₃ => ?_) hp)
    have hL₀ : h₀.get? env.locals = none := Heap.get?_none_of_le F2.above
    have hCL : H2.objs.size ≠ env.locals := by rw [z2]; exact Ne.symm (Nat.ne_of_lt (Nat.lt_of_lt_of_le F.ns.lt (Nat.le_add_right _ 2)))
    have hDL : H1.objs.size ≠ env.locals := by rw [z1]; exact Ne.symm (Nat.ne_of_lt (Nat.lt_succ_of_lt F.ns.lt))
    have F3 : Fr h₀ env.locals h₃ (fun z => if z = y then some (.ref H1.objs.size) else m z) := ⟨hn₃, fun b o e => hs₃.extBut b o (fun q => by rw [q, hL₀] at e; cases e) (F2.keep b o e), F2.above⟩
    refine ⟨_, (hns₁.at' fun o e => old _ (z2 ▸ Ne.symm (Nat.ne_of_lt (Nat.lt_add_of_pos_right (by decide)))) o e).sameBut hs₃ hCL, fun h' hs' => ?_⟩
    refine fin H1.objs.size h' _ (F3.change hs' hCL (fresh₀ _ (by rw [z2]; exact Nat.le_add_right _ 2))) (fun p hp => ?_) fun p hp => z1 ▸ Nat.lt_succ_of_lt (Heap.lt_size (N p hp).1)
    rcases List.mem_cons.mp hp with rfl | hp
    · refine ⟨hs'.extBut _ _ (by rw [z1, z2]; exact Nat.ne_of_lt (Nat.lt_succ_self _)) (hs₃.extBut _ _ hDL (old _ (by rw [z1]; exact Ne.symm (Nat.ne_of_lt (Nat.lt_succ_self _))) _ gD)), hDL, fresh₀ _ (by rw [z1]; exact Nat.le_succ _)⟩
    · exact ⟨hs'.extBut _ _ (lt2 _ (Heap.lt_size (N p hp).1)) (hs₃.extBut _ _ (N p hp).2.1 (keep2 _ _ (N p hp).1)), (N p hp).2⟩
  exact codeAny_compStart_list (loop _ rfl _ rfl) (W.self 0 _ _ _ hst (loop _ rfl _ rfl))
end
section
variable {F : Fn} {lev : Nat} {c : Cx} {lo lo' : Lo} {led led' led1 led2 led4 led5 : ALed} {Φ : Fl} {rest body : List Stmt}
theorem X.compNone {elt target iter : Expr} {ifs : List Expr} {scope : Scope} {cl : List (Str × Addr)} {pos spos py : Pos} {y : Str} {ax : Addr} (hsw : swapsWith (.ListComp elt [⟨target, iter, ifs, 0⟩] scope pos) (some (.Name y py)) spos.line (c.env F) = pure true)
    (hclos : closureFor scope (c.env F) = pure cl) (hcell : (scope.names.all fun y => !(y.2 == .cell)) = true) (hkind : scope.kind = .function) (hnames : (scope.names.all fun y => !(y.2 == .local) || scope.names.lookup y.1 == some .local) = true)
    (hs : ∀ x, foldedSetIterable iter (c.env F) x = pure x) (he : Ev F lev c lo led iter (.ref ax)) (hm : (ax, AO.list []) ∈ led) (k : ∀ D, ∃ lo', SetL y (.ref D) lo lo' ∧ X F lev c Φ lo' ((D, .list []) :: led) rest) :
    X F lev c Φ lo led (.Assign [.Name y py] (.ListComp elt [⟨target, iter, ifs, 0⟩] scope pos) spos :: rest) :=
  X.step fun ok s S E => by
    have hy : isLoc F y = true := by
      obtain ⟨lo', h, -⟩ := k 0
      obtain ⟨-, lk, -⟩ := S
      exact lk.2 y h.mem
    have S0 := S
    obtain ⟨_, _, m0, _, F0, _⟩ := S0
    have hcell' : ∀ y ∈ scope.names, y.2 ≠ .cell := fun y hy e => by
      have := List.all_eq_true.mp hcell y hy
      rw [e] at this; cases this
    have hnames' : ∀ y ∈ scope.names, y.2 = .local → scope.names.lookup y.1 = some .local := fun y hy e => by
      have := List.all_eq_true.mp hnames y hy
      rw [e] at this
      exact eq_of_beq this
    have Se : ∀ v s', VEq (.ref ax) v → St F c lo led s' → ∃ (m : Str → Option Value) (cl : Led) (n : Nat), v = .ref ax ∧ Sim c.s₀ s' ∧ LoOk F lo ∧ Fr c.g c.L s'.heap m ∧ (∀ x v, (x, some v) ∈ lo → ∃ v', m x = some v' ∧ VEq v v') ∧ DenL c.w led cl ∧ News c.g c.L s'.heap cl ∧ (cl.map (·.1)).Nodup ∧ (ax, listOf #[] n) ∈ cl := by
      intro v s' q S'
      obtain ⟨sm, lk, m, cl, Fm, hlo, D, N, nd⟩ := S'
      obtain ⟨l, d, hl⟩ := D.get hm
      cases d with
      | @list _ vs n q2 =>
        cases q2
        exact ⟨m, cl, n, q.ref_inv, sm, lk, Fm, hlo, D, N, nd, hl _ (.head _)⟩
    exact Assign_ListComp_none rfl hsw hclos hcell' hkind hnames' (of_decide_eq_true (Bool.and_eq_true_iff.mp hy).1) (by rw [show (c.env F).scope.kind = .function from ok.k]; rfl) (he ok s S _ _ fun v s' q S' => by
      obtain ⟨m, cl1, n, rfl, sm, lk, Fm, hlo, D, N, nd, hmem⟩ := Se v s' q S'
      refine ⟨ax, n, cl1, m, rfl, rfl, Fm, N, hmem, fun D' h' tk F' N' lt => ?_⟩
      obtain ⟨lo', hl, hX⟩ := k D'
      refine ⟨lo', (D', .list []) :: led, ⟨sm.upd _ _, hl.ok lk, _, _, F', fun x v hx => ?_, .cons (.list .nil) D, N', nodup_new (h := h') nd lt⟩, hX⟩
      rcases hl.cases lk.1 hx with ⟨rfl, rfl⟩ | ⟨q1, q2⟩
      · exact ⟨_, if_pos rfl, .refl _⟩
      · obtain ⟨u', g1, g2⟩ := hlo x v q2
        exact ⟨u', by show (if x = y then _ else m x) = _; rw [if_neg q1]; exact g1, g2⟩) hs
end
end
section
open PySem PySem.W PySem.Calls PyProof.Rows PySem.Spec
inductive RW
  | u (k : Int)
  | m (p : Addr) (d : Int)
  | d (st : Int) (cs : List Int)
  | i (a b : Int)
  | b
noncomputable abbrev unT (k : Int) : AO := .tup [.str (sN "unmodified") 0, .int k 0]
noncomputable abbrev mkTu (p : Addr) (d : Int) : AO := .tup [.str (sN "marker") 0, .ref p, .int d 0]
noncomputable abbrev deT (st : Int) (pc : Addr) (fl : Bool) : AO := .tup [.str (sN "delete") 0, .int st 0, .ref pc, .bool fl]
noncomputable abbrev inT (a b : Int) : AO := .tup [.str (sN "insert") 0, .int a 0, .int b 0]
noncomputable abbrev pieF (cl rr : Addr) : Fields := [(sN "codes", .ref cl), (sN "runs", .ref rr)]
inductive RowAt (T : ALed) : Value → RW → Prop
  | u {q k} : (q, unT k) ∈ T → RowAt T (.ref q) (.u k)
  | m {q p d} : (q, mkTu p d) ∈ T → RowAt T (.ref q) (.m p d)
  | d {q st pc fl cl rr cs} : (q, deT st pc fl) ∈ T → (pc, AO.inst 706 (pieF cl rr)) ∈ T → (cl, AO.list (iv cs)) ∈ T → (rr, AO.list []) ∈ T → RowAt T (.ref q) (.d st cs)
  | i {q a b} : (q, inT a b) ∈ T → RowAt T (.ref q) (.i a b)
  | b : RowAt T (.ref 190) .b
inductive RowsAt (T : ALed) : List Value → List RW → Prop
  | nil : RowsAt T [] []
  | cons {v x vs xs} : RowAt T v x → RowsAt T vs xs → RowsAt T (v :: vs) (x :: xs)
theorem RowAt.mono {T T' : ALed} (hs : ∀ p ∈ T, p ∈ T') {v : Value} {x : RW} (h : RowAt T v x) : RowAt T' v x := by
  cases h with
  | u h => exact .u (hs _ h)
  | m h => exact .m (hs _ h)
  | d h1 h2 h3 h4 => exact .d (hs _ h1) (hs _ h2) (hs _ h3) (hs _ h4)
  | i h => exact .i (hs _ h)
  | b => exact .b
theorem RowsAt.mono {T T' : ALed} (hs : ∀ p ∈ T, p ∈ T') {vs : List Value} {xs : List RW} (h : RowsAt T vs xs) : RowsAt T' vs xs := by
  induction h with
  | nil => exact .nil
  | cons h _ ih => exact .cons (h.mono hs) ih
theorem RowsAt.app {T : ALed} {vs vs' : List Value} {xs xs' : List RW} (h : RowsAt T vs xs) (h' : RowsAt T vs' xs') : RowsAt T (vs ++ vs') (xs ++ xs') := by
  induction h with
  | nil => exact h'
  | cons h _ ih => exact .cons h ih
theorem RowsAt.len {T : ALed} {vs : List Value} {xs : List RW} (h : RowsAt T vs xs) : vs.length = xs.length := by
  induction h with
  | nil => rfl
  | cons _ _ ih => rw [List.length_cons, List.length_cons, ih]
theorem RowsAt.split {T : ALed} : ∀ {xs ys : List RW} {vs : List Value}, RowsAt T vs (xs ++ ys) → ∃ a b, vs = a ++ b ∧ RowsAt T a xs ∧ RowsAt T b ys
  | [], _, vs, h => ⟨[], vs, rfl, .nil, h⟩
  | _ :: _, _, _, .cons h1 h2 => by
    obtain ⟨a, b, e, h3, h4⟩ := h2.split
    exact ⟨_ :: a, b, by rw [e]; rfl, .cons h1 h3, h4⟩
theorem RowsAt.last {T : ALed} {vs : List Value} {pre : List RW} {x : RW} (h : RowsAt T vs (pre ++ [x])) : ∃ a v, vs = a ++ [v] ∧ RowsAt T a pre ∧ RowAt T v x := by
  obtain ⟨a, b, e, h1, h2⟩ := h.split
  cases h2 with
  | cons h3 h4 => cases h4; exact ⟨a, _, e, h1, h3⟩
noncomputable def ntV : Option Int → Value
  | none => .none
  | some k => .int k 0
noncomputable def unB (im : Bool) (o : Option Int) (tick : Int) : Bool := !im && (!decide (o = some tick) && true)
noncomputable def unRows (im : Bool) (o : Option Int) (tick : Int) : List RW := if unB im o tick = true then [.u tick] else []
noncomputable def unNt (im : Bool) (o : Option Int) (tick : Int) : Option Int := if unB im o tick = true then some tick else o
noncomputable def mkRows (xs : List (Addr × Int)) : List RW := xs.map fun p => .m p.1 p.2
inductive LastIs (T : ALed) : List Value → Bool → Prop
  | nil : LastIs T [] true
  | b {pre} : LastIs T (pre ++ [.ref 190]) true
  | row {pre q tag rest} : (q, AO.tup (.str tag 0 :: rest)) ∈ T → (tag == sN "boundary") = false → LastIs T (pre ++ [.ref q]) false
noncomputable def AtBd (rows : List RW) : Prop := rows = [] ∨ ∃ pre, rows = pre ++ [.b]
theorem RowAt.tag {T : ALed} {v : Value} {x : RW} (h : RowAt T v x) (hn : x ≠ .b) : ∃ q tag rest, v = .ref q ∧ (q, AO.tup (.str tag 0 :: rest)) ∈ T ∧ (tag == sN "boundary") = false := by
  cases h with
  | u h => exact ⟨_, _, _, rfl, h, by decide +kernel⟩
  | m h => exact ⟨_, _, _, rfl, h, by decide +kernel⟩
  | d h _ _ _ => exact ⟨_, _, _, rfl, h, by decide +kernel⟩
  | i h => exact ⟨_, _, _, rfl, h, by decide +kernel⟩
  | b => exact absurd rfl hn
theorem RowsAt.bd {T : ALed} {vs : List Value} {rows : List RW} (h : RowsAt T vs rows) (hb : AtBd rows) : LastIs T vs true := by
  rcases hb with rfl | ⟨pre, rfl⟩
  · cases h; exact .nil
  · obtain ⟨a, v, rfl, -, h2⟩ := h.last
    cases h2; exact .b
theorem RowsAt.nbd {T : ALed} {vs : List Value} {rows : List RW} (h : RowsAt T vs rows) (hb : ¬ AtBd rows) : LastIs T vs false := by
  rcases List.eq_nil_or_concat rows with rfl | ⟨pre, x, rfl⟩
  · exact absurd (.inl rfl) hb
  · rw [List.concat_eq_append] at h hb
    obtain ⟨a, v, rfl, -, h2⟩ := h.last
    obtain ⟨q, tag, rest, rfl, h3, h4⟩ := h2.tag fun e => hb (.inr ⟨pre, by rw [e]⟩)
    exact .row h3 h4
noncomputable def LastRw (rows : List RW) (im : Bool) (o : Option Int) (tick : Int) : Prop := unB im o tick = true ∨ ∃ pre x, rows = pre ++ [x] ∧ (x = .b ∨ ∃ st cs, x = .d st cs)
section
variable {F : Fn} {lev : Nat} {c : Cx} {lo : Lo} {led : ALed}
theorem cmp_nt {tick : Int} {o : Option Int} : Cmp F lev c lo led .NotEq (.int tick 0) (ntV o) (!decide (o = some tick)) := by
  cases o with
  | none => exact fun ok s a' b' q1 q2 S Q E k => by obtain ⟨_, rfl⟩ := q1.int_inv; cases q2.none_inv; exact PySem.EqNone.ne_int_none (k _ S)
  | some k =>
    refine Cmp.to (Cmp.ne) ?_
    rw [← decide_not]
    exact decide_eq_decide.mpr ⟨fun h e => h (Option.some.inj e).symm, fun h e => h (by rw [e])⟩
end
inductive TMs (T : ALed) : List Value → List (Addr × Int) → Prop
  | nil : TMs T [] []
  | cons {q p d vs xs} : (q, AO.tup [.ref p, .int d 0]) ∈ T → TMs T vs xs → TMs T (.ref q :: vs) ((p, d) :: xs)
theorem TMs.mono {T T' : ALed} (hs : ∀ p ∈ T, p ∈ T') {vs : List Value} {xs : List (Addr × Int)} (h : TMs T vs xs) : TMs T' vs xs := by
  induction h with
  | nil => exact .nil
  | cons h _ ih => exact .cons (hs _ h) ih
theorem TMs.app {T : ALed} {vs vs' : List Value} {xs xs' : List (Addr × Int)} (h : TMs T vs xs) (h' : TMs T vs' xs') : TMs T (vs ++ vs') (xs ++ xs') := by
  induction h with
  | nil => exact h'
  | cons h _ ih => exact .cons h ih
theorem TMs.len {T : ALed} {vs : List Value} {xs : List (Addr × Int)} (h : TMs T vs xs) : vs.length = xs.length := by
  induction h with
  | nil => rfl
  | cons _ _ ih => rw [List.length_cons, List.length_cons, ih]
end
section
open PySem PySem.W PySem.Calls PyProof.Rows PySem.Spec
structure CQ where
  b : Addr
  x : Addr
  cl : Addr
  mx : Addr
  rd : Addr
  ln : Addr
  rc : Addr
  u : Addr
  room : Int
  bv : Int
structure VQ where
  pt : Int
  zv : Int
  nk : Int
  ck : Int
  sv : Int
  A : List Int
  G : List Int
  B : List Int
  ms : List MQ
  nt : Option Int
  rl : Addr
  vs : List Value
noncomputable abbrev stL (c : CQ) (q : VQ) (T : ALed) : ALed := (c.b, .inst 673 (bufF c.x c.mx c.ln (.ref c.rc) q.pt c.bv q.zv q.nk q.ck q.sv)) :: (c.x, .inst 422 (gapF c.cl c.room q.A.length (q.A.length + q.G.length))) :: (c.cl, .list (iv (q.A ++ q.G ++ q.B))) :: (c.mx, .inst 567 (mksF c.rd)) :: (c.rd, .idict (kvM q.ms)) :: (c.ln, .list []) ::
  (c.rc, .inst 746 [(sN "list", .ref c.u)]) :: (c.u, .inst 275 (undF q.rl (ntV q.nt))) :: (q.rl, .list q.vs) :: (q.ms.map (mkA (.ref c.b)) ++ T)
structure Sem where
  tx : List Int
  ms : List MQ
  zv : Int
  nk : Int
  sv : Int
  nt : Option Int
  rows : List RW
structure StIs (c : CQ) (q : VQ) (T : ALed) (S : Sem) : Prop where
  tx : q.A ++ q.B = S.tx
  sz : q.A.length + q.G.length + q.B.length ≤ 1000
  ms : q.ms = S.ms
  zv : q.zv = S.zv
  nk : q.nk = S.nk
  sv : q.sv = S.sv
  nt : q.nt = S.nt
  rows : RowsAt T q.vs S.rows
  asc : MsAsc q.ms
  mz : Nat.ble q.ms.length 60 = true
  r0 : 0 ≤ c.room
  r1 : c.room ≤ 100
noncomputable def imS (S : Sem) : Bool := decide (S.sv < S.nk)
noncomputable def noteRows (S : Sem) : List RW := unRows (imS S) S.nt S.sv
noncomputable def noteNt (S : Sem) : Option Int := unNt (imS S) S.nt S.sv
noncomputable abbrev cutL (st nd : Int) (l : List Int) : List Int := (l.drop (st - 1).toNat).take ((nd - 1).toNat - (st - 1).toNat)
noncomputable def dists (st nd : Int) (ms : List MQ) : List (Addr × Int) := ((ms.filter (inM st nd)).map fun m => (m.p, mdist st nd m.v m.y))
noncomputable def recS (st nd : Int) (ms : List MQ) : List (Addr × Int) := (dists st nd ms).filter fun p => decide (p.2 ≠ 0)
noncomputable def goneS (st nd : Int) (S : Sem) : Sem := { S with nt := noteNt S, rows := S.rows ++ (noteRows S ++ (mkRows (recS st nd S.ms) ++ [.d st (cutL st nd S.tx)])) }
noncomputable def outS (st nd : Int) (S : Sem) : Sem := { goneS st nd S with tx := S.tx.take (st - 1).toNat ++ S.tx.drop (nd - 1).toNat, zv := S.zv - (nd - st) }
noncomputable def inS (pl : Int) (cs : List Int) (S : Sem) : Sem := { S with tx := S.tx.take (pl - 1).toNat ++ cs ++ S.tx.drop (pl - 1).toNat, zv := S.zv + cs.length, nt := noteNt S, rows := S.rows ++ (noteRows S ++ [.i pl (pl + cs.length)]) }
noncomputable def mvS (f : Bool → Int → Int) (S : Sem) : Sem := { S with ms := S.ms.map (adjM f) }
noncomputable def tkS (S : Sem) : Sem := { S with nk := S.nk + 1 }
noncomputable def delS (st nd : Int) (S : Sem) : Sem := tkS (mvS (fun _ => delAdj st nd) (outS st nd S))
noncomputable def insS (pl : Int) (cs : List Int) (bf : Bool) (S : Sem) : Sem := tkS (mvS (insAdj pl (pl + cs.length) bf) (inS pl cs S))
noncomputable def repS (st nd : Int) (cs : List Int) (S : Sem) : Sem := tkS (mvS (fun _ => repAdj st nd cs.length) (inS st cs (outS st nd S)))
noncomputable abbrev delT (a b : Int) (t : List Int) : List Int := t.take (a - 1).toNat ++ t.drop (b - 1).toNat
noncomputable abbrev insT (p : Int) (cs t : List Int) : List Int := t.take (p - 1).toNat ++ cs ++ t.drop (p - 1).toNat
theorem tn {a : Int} (h : 1 ≤ a) : ∃ n : Nat, a = n + 1 ∧ (a - 1).toNat = n := ⟨(a - 1).toNat, by rw [Int.toNat_of_nonneg (Int.sub_nonneg_of_le h)]; exact (Int.sub_add_cancel a 1).symm, rfl⟩
theorem tn2 {a b : Int} {t : List Int} (h0 : 1 ≤ a) (h : a < b) (h1 : b ≤ t.length + 1) : ∃ n k r : Nat, a = n + 1 ∧ b = ((n + k : Nat) : Int) + 1 ∧ (a - 1).toNat = n ∧ (b - 1).toNat = n + k ∧ t.length = n + k + r := by
  obtain ⟨n, rfl, e⟩ := tn h0
  obtain ⟨m, rfl, e2⟩ := tn (Int.le_trans h0 (Int.le_of_lt h))
  obtain ⟨k, rfl⟩ := Nat.exists_eq_add_of_le (Int.ofNat_le.mp (Int.le_of_add_le_add_right (Int.le_of_lt h)))
  obtain ⟨r, hr⟩ := Nat.exists_eq_add_of_le (Int.ofNat_le.mp (Int.le_of_add_le_add_right h1))
  exact ⟨n, k, r, rfl, rfl, e, e2, hr⟩
theorem cut_len {a b : Int} {t : List Int} (h0 : 1 ≤ a) (h : a < b) (h1 : b ≤ t.length + 1) : ((cutL a b t).length : Int) = b - a := by
  obtain ⟨n, k, r, rfl, rfl, e, e2, hr⟩ := tn2 h0 h h1
  rw [cutL, List.length_take, List.length_drop, e, e2, hr, Nat.add_sub_cancel_left, Nat.add_assoc, Nat.add_sub_cancel_left, Nat.min_eq_left (Nat.le_add_right _ _), Int.add_sub_add_right, Int.natCast_add, Int.add_comm, Int.add_sub_cancel]
theorem del_len {a b : Int} {t : List Int} (h0 : 1 ≤ a) (h : a < b) (h1 : b ≤ t.length + 1) : ((delT a b t).length : Int) = t.length - (b - a) := by
  obtain ⟨n, k, r, rfl, rfl, e, e2, hr⟩ := tn2 h0 h h1
  rw [delT, List.length_append, List.length_take, List.length_drop, e, e2, hr, Nat.add_sub_cancel_left, Nat.add_assoc n k r, Nat.min_eq_left (Nat.le_add_right _ _), Int.add_sub_add_right]
  lia
theorem ins_len {p : Int} {cs t : List Int} (h0 : 1 ≤ p) (h1 : p ≤ t.length + 1) : ((insT p cs t).length : Int) = t.length + cs.length := by
  obtain ⟨n, rfl, e⟩ := tn h0
  obtain ⟨r, hr⟩ := Nat.exists_eq_add_of_le (Int.ofNat_le.mp (Int.le_of_add_le_add_right h1))
  rw [insT, List.length_append, List.length_append, List.length_take, List.length_drop, e, hr, Nat.add_sub_cancel_left, Nat.min_eq_left (Nat.le_add_right _ _)]
  lia
theorem asc_adj {f : Bool → Int → Int} {ms : List MQ} (h : MsAsc ms) : MsAsc (ms.map (adjM f)) := by
  unfold MsAsc at h ⊢
  rw [List.map_map]; exact h
end
section
open PySem PySem.W PySem.Calls PyProof.Rows PySem.Spec
set_option maxHeartbeats 1000000
theorem ex_lk {K : Frag} {a : Addr} {o : Obj} {P : Obj → Prop} (h : K.lookup a = some o) (k : P o) : ∃ o, K.lookup a = some o ∧ P o := ⟨o, h, k⟩
theorem bd_top (c : Cx) (led : ALed) : ∃ t, TupAt c led 190 [.str (sN "boundary") t] := by
  have : ∃ o, (Mine.fr0.heap_1 c.w.params).lookup 190 = some o ∧ ∃ t n, o = { cls := .type "tuple", data := .seq (List.toArray [Value.str (sN "boundary") t]) n } := by
    refine' ex_lk ?h ?k
    case h => k_is
    case k => exact ⟨_, _, rfl⟩
  obtain ⟨o, h, t, n, rfl⟩ := this
  exact ⟨t, .top h⟩
theorem ev_bd {F : Fn} {lev : Nat} {c : Cx} {lo : Lo} {led : ALed} {e1 e2 : Expr} {pos : Pos} {q : Addr} {b : Bool} (h1 : Ev F lev c lo led e1 (.ref q)) (h2 : Ev F lev c lo led e2 (.ref 190)) (hm : behindInMarks .Eq e2 = false) (h : (q = 190 ∧ b = true) ∨ (∃ tag rest, (q, AO.tup (.str tag 0 :: rest)) ∈ led ∧ (tag == sN "boundary") = false ∧ b = false)) : Ev F lev c lo led (.Compare e1 [.Eq] [e2] pos) (.bool b) := by
  obtain ⟨t, hb⟩ := bd_top c led
  rcases h with ⟨rfl, rfl⟩ | ⟨tag, rest, h3, h4, rfl⟩
  · exact Ev.cmp h1 h2 (Cmp.teq hb hb (.ss (beq_self_eq_true _) .nn)) hm
  · exact Ev.cmp h1 h2 (Cmp.teq (.led h3) hb (.ds h4)) hm
theorem atbd_H (u rl : Addr) (nt : Value) (vs : List Value) (T : ALed) (b : Bool) (hl : vs.length ≤ 1000) (h : LastIs T vs b) :
    HSpec 1 218 [.ref u] ((u, .inst 275 (undF rl nt)) :: (rl, .list vs) :: T) fun K => K (.bool b) ((u, .inst 275 (undF rl nt)) :: (rl, .list vs) :: T) := by
  have hz : vs.length < 2 ^ 62 := Nat.lt_of_le_of_lt hl (by decide)
  have key : ∀ (pre : List Value) (q : Addr), vs = pre ++ [.ref q] → ((q = 190 ∧ b = true) ∨ (∃ tag rest, (q, AO.tup (.str tag 0 :: rest)) ∈ T ∧ (tag == sN "boundary") = false ∧ b = false)) → HSpec 1 218 [.ref u] ((u, .inst 275 (undF rl nt)) :: (rl, .list vs) :: T) fun K => K (.bool b) ((u, .inst 275 (undF rl nt)) :: (rl, .list vs) :: T) := by
    rintro pre q rfl hq
    refine' HSpec.intro [sN "self"] [] ?ho ?hcd ?hb ?ml ?hn ?hco ?hgen ?hk ?hcell ?body
    walk_at "h_intro"
    case hb => exact arity1 fun _ => rfl
    case body =>
    intro c K hK
    have hn : (decide (((pre ++ [Value.ref q]).length : Int) = 0) || b) = b := by rw [decide_eq_false (by rw [List.length_append, List.length_cons]; lia)]; rfl
    refine' X.ret (v := .bool b) (hn ▸ Ev.or ?a fun _ => Ev.bone (ev_bd (Ev.last (vs := pre) ?c Ev.neg ?d) (Ev.glob ?e ?f) rfl ?g)) ?S hK
    case a => walk_at "h_ev"
    case c => walk_at "h_ev"
    case d => walk_at "h_mem"
    case e => k_is
    case f => decide +kernel
    case g => exact hq.imp id fun ⟨tag, rest, h3, h4⟩ => ⟨tag, rest, .tail _ (.tail _ h3), h4⟩
    case S => walk_at "h_split"
  cases h with
  | nil =>
    refine' HSpec.intro [sN "self"] [] ?ho ?hcd ?hb ?ml ?hn ?hco ?hgen ?hk ?hcell ?body
    walk_at "h_intro"
    case hb => exact arity1 fun _ => rfl
    case body =>
    intro c K hK
    refine' X.ret (v := .bool (decide ((([] : List Value).length : Int) = 0) || false)) (Ev.or ?a fun h => by cases h) ?S hK
    case a => walk_at "h_ev"
    case S => walk_at "h_split"
  | @b pre => exact key pre 190 rfl (.inl ⟨rfl, rfl⟩)
  | @row pre q tag rest hm ht => exact key pre q rfl (.inr ⟨tag, rest, hm, ht, rfl⟩)
theorem boundary_H (u rl : Addr) (nt : Value) (vs : List Value) (T : ALed) (hl : vs.length ≤ 1000) (h : LastIs T vs false) :
    HSpec 2 225 [.ref u] ((u, .inst 275 (undF rl nt)) :: (rl, .list vs) :: T) fun K => K .none ((u, .inst 275 (undF rl nt)) :: (rl, .list (vs ++ [.ref 190])) :: T) := by
  refine' HSpec.intro [sN "self"] [] ?ho ?hcd ?hb ?ml ?hn ?hco ?hgen ?hk ?hcell ?body
  walk_at "h_intro"
  case hb => exact arity1 fun _ => rfl
  case body =>
  intro c K hK
  refine' X.iteT (Ts.not (Ts.val (Ev.meth (atbd_H u rl nt vs T false hl h) ?ho ?hm ?ha ?Sp ?hns ?hno ?h1 ?h2 ?h3 ?hk ?hl ?he) rfl)) ?k
  walk_at "h_meth"
  case k =>
  refine' X.expr rfl (Ex.append ?ho2 (Ev.glob ?e ?f) rfl ?R ?z (fun _ => rfl) ?k2)
  case ho2 => walk_at "h_ev"
  case e => k_is
  case f => decide +kernel
  case R => walk_at "h_rep"
  case z => exact Nat.le_trans hl (by decide)
  case k2 =>
  refine' X.nilT ?_
  refine' X.finF ?S (hK)
  case S => walk_at "h_split"
theorem nstate_H (u rl : Addr) (o : Option Int) (vs : List Value) (im : Bool) (tick : Int) (hl : vs.length ≤ 1000) :
    HSpec 1 239 [.ref u, .bool im, .int tick 0] [(u, .inst 275 (undF rl (ntV o))), (rl, .list vs)] fun K => ∀ N vs', RowsAt N vs' (unRows im o tick) → K .none ((u, .inst 275 (undF rl (ntV (unNt im o tick)))) :: (rl, .list (vs ++ vs')) :: N) := by
  have hh : handedIn (ntV o) = true := by cases o <;> rfl
  refine' HSpec.intro [sN "self", sN "is_modified", sN "tick"] [] ?ho ?hcd ?hb ?ml ?hn ?hco ?hgen ?hk ?hcell ?body
  walk_at "h_intro"
  case hb => exact arity3 fun _ _ _ => rfl
  case body =>
  intro c K hK
  refine' X.iteB (Ts.and (Ts.not (Ts.val ?a rfl)) fun _ => Ts.and (Ts.cmp ?b ?d (cmp_nt (o := o)) rfl) fun _ => Ts.andNil) ?y ?n
  case a => walk_at "h_ev"
  case b => walk_at "h_ev"
  case d => walk_at "h_ev"
  case y =>
    intro h
    have h : unB im o tick = true := h
    refine' X.expr rfl ?_
    walk_at "h_appendE"
    case he =>
    refine' Ex.tup ?ev ?z fun d => ⟨_, _, ?R, Nat.le_trans hl (by decide), ?k⟩
    case ev => walk_at "h_evs"
    case z => rfl
    case R => walk_at "h_rep"
    case k =>
    walk_at "h_setattr"
    case k =>
    refine' X.nilT ?_
    have := hK [(d, unT tick)] [.ref d] (by rw [unRows, if_pos h]; exact .cons (.u (.head _)) .nil)
    rw [unNt, if_pos h, show ntV (some tick) = .int tick 0 from rfl] at this
    refine' X.finF ?S (this)
    case S => walk_at "h_split"
  case n =>
    intro h
    have h' : ¬ unB im o tick = true := by rw [show unB im o tick = false from h]; exact Bool.false_ne_true
    have := hK [] [] (by rw [unRows, if_neg h']; exact .nil)
    rw [unNt, if_neg h', List.append_nil] at this
    refine' X.nilT ?_
    refine' X.finF ?S (this)
    case S => walk_at "h_split"
inductive NiL (c : Cx) (led : ALed) (ws : List Value) : Prop
  | mk (pre : List Value) (q : Addr) (tag : Str) (tt : Tok) (rest : List Value) (e1 : ws = pre ++ [.ref q]) (hT : TupAt c led q (.str tag tt :: rest)) (ht : (tag == sN "insert") = false)
theorem nins_last {c : Cx} {led N T : ALed} {vs vs' : List Value} {rows : List RW} {im : Bool} {o : Option Int} {tick : Int} (hR : RowsAt T vs rows) (hla : LastRw rows im o tick) (hN : RowsAt N vs' (unRows im o tick)) (h1 : ∀ p ∈ N, p ∈ led) (h2 : ∀ p ∈ T, p ∈ led) : NiL c led (vs ++ vs') := by
  by_cases h : unB im o tick = true
  · rw [unRows, if_pos h] at hN
    cases hN with
    | cons g1 g2 =>
      cases g2
      cases g1 with
      | u g1 => exact ⟨vs, _, _, 0, _, rfl, .led (h1 _ g1), by decide +kernel⟩
  · rw [unRows, if_neg h] at hN
    cases hN
    obtain ⟨pre, x, rfl, hx⟩ := hla.resolve_left h
    obtain ⟨a, v, rfl, -, hv⟩ := hR.last
    rcases hx with rfl | ⟨st, cs, rfl⟩
    · cases hv
      obtain ⟨t, hb⟩ := bd_top c _
      exact ⟨a, 190, _, t, [], List.append_nil _, hb, by decide +kernel⟩
    · cases hv with
      | d g1 _ _ _ => exact ⟨a, _, _, 0, _, List.append_nil _, .led (h2 _ g1), by decide +kernel⟩
theorem ninsert_H (u rl : Addr) (o : Option Int) (vs : List Value) (rows : List RW) (T : ALed) (im : Bool) (tick st mn pt : Int) (hl : vs.length ≤ 900) (hR : RowsAt T vs rows) (hla : LastRw rows im o tick) (hm : mn ≠ 0) :
    HSpec 2 246 [.ref u, .int st 0, .int mn 0, .int pt 0, .bool im, .int tick 0] ((u, .inst 275 (undF rl (ntV o))) :: (rl, .list vs) :: T) fun K => ∀ N vs', RowsAt N vs' (unRows im o tick ++ [.i st (st + mn)]) →
      K .none ((u, .inst 275 (undF rl (ntV (unNt im o tick)))) :: (rl, .list (vs ++ vs')) :: (N ++ T)) := by
  refine' HSpec.intro [sN "self", sN "start", sN "many", sN "point", sN "is_modified", sN "tick"] [sN "last"] ?ho ?hcd ?hb ?ml ?hn ?hco ?hgen ?hk ?hcell ?body
  walk_at "h_intro"
  case hb => exact arity6 fun _ _ _ _ _ _ => rfl
  case body =>
  intro c K hK
  refine' X.iteF (Ts.to (q := false) (Ts.or (Ts.not (Ts.val ?a rfl)) fun _ => Ts.or (Ts.cmp ?b ?d Cmp.eq rfl) fun _ => Ts.orNil) ?e) ?k
  case a => walk_at "h_ev"
  case b => walk_at "h_ev"
  case d => walk_at "h_ev"
  case e => rw [decide_eq_false hm]; rfl
  case k =>
  refine' X.nilT ?_
  refine' X.expr rfl ?_
  refine' Ex.meth (nstate_H u rl o vs im tick (Nat.le_trans hl (by decide))) ?ho ?hm ?ha ?Sp ?hns ?hno ?h1 ?h2 ?h3 ?hk ?hl ?he ?hp
  walk_at "h_meth"
  case hp =>
  intro N vs' hN
  (dsimp only [List.cons_append, List.nil_append])
  have hvl : vs'.length ≤ 1 := by rw [hN.len]; unfold unRows; split <;> exact Nat.le_of_ble_eq_true rfl
  have hlen : (vs ++ vs').length < 2 ^ 62 := by rw [List.length_append]; exact Nat.lt_of_le_of_lt (Nat.add_le_add hl hvl) (by decide)
  have hlen2 : (vs ++ vs').length ≤ 1000000 := by rw [List.length_append]; exact Nat.le_trans (Nat.add_le_add hl hvl) (by decide)
  obtain ⟨pre, q, tag, tt, rest, e1, hT, ht⟩ := nins_last (c := c) (led := (u, .inst 275 (undF rl (ntV (unNt im o tick)))) :: (rl, .list (vs ++ vs')) :: (N ++ T)) hR hla hN (fun p hp => .tail _ (.tail _ (List.mem_append_left _ hp))) (fun p hp => .tail _ (.tail _ (List.mem_append_right _ hp)))
  generalize hW : vs ++ vs' = W at *
  subst e1
  refine' X.assign ?hx rfl (Ev.iteT (Ts.to (Ts.cmp (Ev.len ?c1 ?c2 hlen rfl ?c3 ?c4 rfl) Ev.int Cmp.gt rfl) ?c5) (Ev.last ?c6 Ev.neg ?c7)) ?k
  case c1 => walk_at "h_ev"
  case c2 => walk_at "h_mem"
  case c3 => decide +kernel
  case c4 => k_is
  case c5 => exact decide_eq_true (by rw [List.length_append, List.length_cons]; lia)
  case c6 => walk_at "h_ev"
  case c7 => walk_at "h_mem"
  case hx => walk_at "h_setl"
  case k =>
  refine' X.iteF (Ts.and (p := false) (q := true) (Ts.cmp (Ev.titemA (n := 0) ?d1 Ev.int hT rfl rfl) Ev.str (Cmp.eqs ht) rfl) fun h => by cases h) ?k
  case d1 => walk_at "h_ev"
  case k =>
  refine' X.expr rfl ?_
  walk_at "h_appendE"
  case he =>
  refine' Ex.tup ?ev ?z fun d => ⟨_, _, ?R, hlen2, ?k⟩
  case ev => walk_at "h_evs"
  case z => rfl
  case R => walk_at "h_rep"
  case k =>
  refine' X.nilT ?_
  have hk := hK ((d, inT st (st + mn)) :: N) (vs' ++ [.ref d]) ((hN.mono fun p hp => .tail _ hp).app (.cons (.i (.head _)) .nil))
  rw [← List.append_assoc, hW] at hk
  (dsimp only [List.cons_append] at hk)
  refine' X.finF ?S (hk)
  case S => walk_at "h_split"
end
section
open PySem PySem.W PySem.Calls PyProof.Rows PySem.Spec
set_option maxHeartbeats 1000000
noncomputable abbrev ndLo (u pc ml : Addr) (st pt tick : Int) (im : Bool) (a b : Option Value) : Lo := [(sN "self", some (.ref u)), (sN "start", some (.int st 0)), (sN "piece", some (.ref pc)), (sN "point", some (.int pt 0)), (sN "markers", some (.ref ml)), (sN "is_modified", some (.bool im)), (sN "tick", some (.int tick 0)), (sN "is_first", some (.bool true)), (sN "marker", a), (sN "distance", b)]
inductive NdJ (u rl pc ml : Addr) (o : Option Int) (vs : List Value) (N T : ALed) (im : Bool) (tick st pt : Int) (xs : List (Addr × Int)) (r : List Value) (lo : Lo) (led : ALed) : Prop
  | mk (a b : Option Value) (dn td : List (Addr × Int)) (N2 : ALed) (vs2 : List Value) (f0 : lo = ndLo u pc ml st pt tick im a b) (f1 : xs = dn ++ td) (f2 : TMs T r td) (f3 : RowsAt (N2 ++ N) vs2 (unRows im o tick ++ mkRows (dn.filter fun p => decide (p.2 ≠ 0)))) (f4 : vs2.length ≤ 1 + dn.length) (f5 : led = (u, .inst 275 (undF rl (ntV (unNt im o tick)))) :: (rl, .list (vs ++ vs2)) :: (N2 ++ (N ++ T)))
theorem ndelete_H (u rl pc cl rr ml : Addr) (o : Option Int) (vs mvs : List Value) (T : ALed) (im : Bool) (tick st pt : Int) (cs : List Int) (xs : List (Addr × Int)) (hl : vs.length ≤ 900) (hb : LastIs T vs true) (hpc : (pc, AO.inst 706 (pieF cl rr)) ∈ T) (hcl : (cl, AO.list (iv cs)) ∈ T) (hrr : (rr, AO.list []) ∈ T) (hc0 : 0 < cs.length) (hc1 : cs.length ≤ 1000) (hm : TMs T mvs xs) (hx : xs.length ≤ 60) :
    HSpec 2 253 [.ref u, .int st 0, .ref pc, .int pt 0, .ref ml, .bool im, .int tick 0] ((u, .inst 275 (undF rl (ntV o))) :: (rl, .list vs) :: (ml, .list mvs) :: T) fun K => ∀ N vs', (∀ x ∈ T, x ∈ N) → RowsAt N vs' (unRows im o tick ++ (mkRows (xs.filter fun p => decide (p.2 ≠ 0)) ++ [.d st cs])) →
      K .none ((u, .inst 275 (undF rl (ntV (unNt im o tick)))) :: (rl, .list (vs ++ vs')) :: N) := by
  have hz : (iv cs).length < 2 ^ 62 := by rw [List.length_map]; exact Nat.lt_of_le_of_lt hc1 (by decide)
  refine' HSpec.intro [sN "self", sN "start", sN "piece", sN "point", sN "markers", sN "is_modified", sN "tick"] [sN "is_first", sN "marker", sN "distance"] ?ho ?hcd ?hb ?ml ?hn ?hco ?hgen ?hk ?hcell ?body
  walk_at "h_intro"
  case hb => exact arity7 fun _ _ _ _ _ _ _ => rfl
  case body =>
  intro c K hK
  refine' X.iteF (Ts.to (q := false) (Ts.or (Ts.not (Ts.val ?a rfl)) fun _ => Ts.or (Ts.cmp (Ev.len ?b ?b2 hz rfl ?b3 ?b4 (lenIv cs)) Ev.int Cmp.eq rfl) fun _ => Ts.orNil) ?e) ?k
  case a => walk_at "h_ev"
  case b => walk_at "h_ev"
  case b2 => walk_at "h_mem"
  case b3 => decide +kernel
  case b4 => k_is
  case e => rw [decide_eq_false (show ¬ (cs.length : Int) = 0 by lia)]; rfl
  case k =>
  refine' X.nilT ?_
  refine' X.assign ?hx rfl (Ev.meth (atbd_H u rl (ntV o) vs T true (Nat.le_trans hl (by decide)) hb) ?ho ?hm ?ha ?Sp ?hns ?hno ?h1 ?h2 ?h3 ?hk ?hl ?he) ?k
  walk_at "h_meth"
  case hx => walk_at "h_setl"
  case k =>
  refine' X.expr rfl ?_
  refine' Ex.meth (nstate_H u rl o vs im tick (Nat.le_trans hl (by decide))) ?ho ?hm ?ha ?Sp ?hns ?hno ?h1 ?h2 ?h3 ?hk ?hl ?he ?hp
  walk_at "h_meth"
  case hp =>
  intro N vs' hN
  (dsimp only [List.cons_append, List.nil_append])
  refine' X.iteF (Ts.and (p := true) (q := false) (Ts.val ?a rfl) fun _ => Ts.and (p := false) (q := true) (Ts.cmp ?b Ev.none Cmp.isnotN rfl) fun h => by cases h) ?k
  case a => walk_at "h_ev"
  case b => walk_at "h_ev"
  case k =>
  refine' X.nilT ?_
  have hvl : vs'.length ≤ 1 := by rw [hN.len]; unfold unRows; split <;> exact Nat.le_of_ble_eq_true rfl
  refine' X.forL (NdJ u rl pc ml o vs N T im tick st pt xs) (Ex.ev ?ev ?ini) (fun _ => rfl)
  case ev => walk_at "h_ev"
  case ini =>
  refine' ⟨ml, mvs, (u, .inst 275 (undF rl (ntV (unNt im o tick)))) :: (rl, .list (vs ++ vs')) :: (N ++ T), rfl, ?R, ⟨none, none, [], xs, [], vs', rfl, rfl, hm, ?r, Nat.le_trans hvl (Nat.le_add_right _ _), rfl⟩, ?b, ?c⟩
  case R => walk_at "h_rem"
  case r => rw [show mkRows (([] : List (Addr × Int)).filter fun p => decide (p.2 ≠ 0)) = [] from rfl, List.append_nil]; exact hN
  case b =>
    rintro lo led ⟨a, b, dn, td, N2, vs2, rfl, e1, h, hR, hvl2, rfl⟩
    cases h
    rw [List.append_nil] at e1
    subst e1
    refine' X.expr rfl ?_
    walk_at "h_appendE"
    case he =>
    refine' Ex.tup (vs := [.str (sN "delete") 0, .int st 0, .ref pc, .bool (decide (pt = st + cs.length))]) (.cons rfl Ev.str (.cons rfl ?v1 (.cons rfl ?v2 (.cons rfl (Ev.cmp ?v3 (Ev.add ?v4 (Ev.len ?v5 ?v6 hz rfl ?v7 ?v8 (lenIv cs))) Cmp.eq rfl) .nil)))) rfl fun d => ⟨_, _, ?R, ?z, ?k⟩
    case v1 => walk_at "h_ev"
    case v2 => walk_at "h_ev"
    case v3 => walk_at "h_ev"
    case v4 => walk_at "h_ev"
    case v5 => walk_at "h_ev"
    case v6 => walk_at "h_mem"
    case v7 => decide +kernel
    case v8 => k_is
    case R => walk_at "h_rep"
    case z => rw [List.length_append]; lia
    case k =>
    have hk := hK ((d, deT st pc (decide (pt = st + cs.length))) :: (N2 ++ (N ++ T))) (vs2 ++ [.ref d]) (fun x hx => .tail _ (List.mem_append_right _ (List.mem_append_right _ hx))) (by
      have h9 := (hR.mono (T' := (d, deT st pc (decide (pt = st + cs.length))) :: (N2 ++ (N ++ T))) fun p hp => .tail _ ((List.mem_append.mp hp).elim (List.mem_append_left _) fun h => List.mem_append_right _ (List.mem_append_left _ h))).app (.cons (.d (q := d) (st := st) (.head _) (.tail _ (List.mem_append_right _ (List.mem_append_right _ hpc))) (.tail _ (List.mem_append_right _ (List.mem_append_right _ hcl))) (.tail _ (List.mem_append_right _ (List.mem_append_right _ hrr)))) .nil)
      rw [List.append_assoc] at h9
      exact h9)
    rw [← List.append_assoc vs] at hk
    refine' X.finF ?S (hk)
    case S => walk_at "h_split"
  case c =>
    rintro I it ob v r lo led ⟨a, b, dn, td, N2, vs2, rfl, e1, h, hR, hvl2, rfl⟩
    cases h with
    | @cons q p d _ xs' hq h =>
      have hdl : dn.length ≤ 60 := Nat.le_trans (by rw [e1, List.length_append]; exact Nat.le_add_right _ _) hx
      refine' ⟨_, Asg.tup (vs := [.ref p, .int d 0]) ?m ?s, ?k⟩
      case m => walk_at "h_mem"
      case s => walk_at "h_setts"
      case k =>
      have fin : ∀ N3 vs3, RowsAt (N3 ++ N) vs3 (unRows im o tick ++ mkRows ((dn ++ [(p, d)]).filter fun p => decide (p.2 ≠ 0))) → vs3.length ≤ 1 + (dn ++ [(p, d)]).length → NdJ u rl pc ml o vs N T im tick st pt xs r (ndLo u pc ml st pt tick im (some (.ref p)) (some (.int d 0))) ((u, AO.inst 275 (undF rl (ntV (unNt im o tick)))) :: (rl, .list (vs ++ vs3)) :: (N3 ++ (N ++ T)))  := fun N3 vs3 h3 h4 => ⟨_, _, dn ++ [(p, d)], xs', N3, vs3, rfl, by rw [e1, List.append_assoc]; rfl, h, h3, h4, rfl⟩
      refine' X.ite (Ts.cmp ?t1 Ev.int Cmp.ne rfl) ?y ?n
      case t1 => walk_at "h_ev"
      case y =>
        intro hy
        refine' X.expr rfl ?_
        walk_at "h_appendE"
        case he =>
        refine' Ex.tup ?ev ?z fun dd => ⟨_, _, ?R, ?z2, ?k⟩
        case ev => walk_at "h_evs"
        case z => rfl
        case R => walk_at "h_rep"
        case z2 => rw [List.length_append]; lia
        case k =>
        have f := fin ((dd, mkTu p d) :: N2) (vs2 ++ [.ref dd]) (by
          rw [List.filter_append, List.filter_cons, if_pos (decide_eq_true hy), List.filter_nil, mkRows, List.map_append, ← List.append_assoc]
          exact (hR.mono fun p hp => .tail _ hp).app (.cons (.m (.head _)) .nil)) (by rw [List.length_append, List.length_append]; exact Nat.add_le_add_right hvl2 1)
        rw [← List.append_assoc vs] at f
        (dsimp only [List.cons_append] at f)
        refine' X.nilT (X.tend ?S ?Sb f)
        case S => walk_at "h_split"
        case Sb => walk_at "h_split"
      case n =>
        intro hn
        have f := fin N2 vs2 (by rw [List.filter_append, List.filter_cons, if_neg (by rw [decide_eq_false hn]; exact Bool.false_ne_true), List.filter_nil, List.append_nil]; exact hR) (Nat.le_trans hvl2 (by rw [List.length_append]; exact Nat.le_succ _))
        refine' X.nilT (X.nil ⟨_, ?S2, f⟩)
        case S2 => walk_at "h_split"
end
section
open PySem PySem.W PySem.Calls PyProof.Rows PySem.Spec
set_option maxHeartbeats 1000000
theorem LastIs.tt {T T' : ALed} {vs : List Value} (h : LastIs T vs true) : LastIs T' vs true := by
  cases h with
  | nil => exact .nil
  | b => exact .b
noncomputable abbrev tgCan (c : CQ) (q : VQ) (ml rr n : Addr) (st : Int) (N : ALed) (tv : List Value) : ALed := (ml, .list tv) :: (n, .cell (some (.int st 0))) :: (rr, .list []) :: stL c q N
noncomputable abbrev tgLo (rc b rw rr ml : Addr) (nd : Int) (v w : Option Value) : Lo := [(sN "self", some (.ref rc)), (sN "buffer", some (.ref b)), (sN "end", some (.int nd 0)), (sN "rows", some (.ref rw)), (sN "runs", some (.ref rr)), (sN "markers", some (.ref ml)), (sN "marker", v), (sN "piece", w)]
inductive TgJ (b rc : Addr) (SL : ALed → List Value → ALed) (ms : List MQ) (T : ALed) (rw rr ml : Addr) (st nd : Int) (r : List Value) (lo : Lo) (led : ALed) : Prop
  | mk (v : Option Value) (dn td : List MQ) (N : ALed) (tv : List Value) (f0 : lo = tgLo rc b rw rr ml nd v none) (f1 : ms.filter (inM st nd) = dn ++ td) (f2 : r = td.map (fun m => Value.ref m.p)) (f3 : (∀ x ∈ T, x ∈ N)) (f4 : TMs N tv (dn.map fun m => (m.p, mdist st nd m.v m.y))) (f5 : led = SL N tv)
theorem tgoes_S (c : CQ) (q : VQ) (T : ALed) (st nd : Int) (hsz : q.A.length + q.G.length + q.B.length ≤ 1000) (ha : MsAsc q.ms) (hz : Nat.ble q.ms.length 60 = true) (h0 : 1 ≤ st) (h1 : st < nd) (h2 : nd ≤ q.A.length + q.B.length + 1) (hl : q.vs.length ≤ 900) (hb : LastIs T q.vs true) :
    HSpec 4 736 [.ref c.rc, .ref c.b, .int st 0, .int nd 0] (stL c q T) fun K => ∀ N vs', (∀ x ∈ T, x ∈ N) → RowsAt N vs' (unRows (decide (q.sv < q.nk)) q.nt q.sv ++ (mkRows (recS st nd q.ms) ++ [.d st (cutL st nd (q.A ++ q.B))])) →
      K .none (stL c { q with nt := unNt (decide (q.sv < q.nk)) q.nt q.sv, vs := q.vs ++ vs' } N) := by
  obtain ⟨b, x, cl, mx, rd, ln, rc, u, room, bv⟩ := c
  obtain ⟨pt, zv, nk, ck, sv, A, G, B, ms, nt, rl, vs⟩ := q
  dsimp only at *
  have hh : handedIn (ntV nt) = true := by cases nt <;> rfl
  refine' HSpec.introC [sN "self", sN "buffer", sN "start", sN "end"] [sN "rows", sN "runs", sN "markers", sN "marker", sN "piece"] [] (fun n => [(sN "start", n)]) (fun n => [(n, .cell (some (.int st 0)))]) ?ho ?hcd ?hb ?ml ?hn ?hn2 ?hn3 ?hn4 ?hcs ?hca ?hcl ?hco ?hgen ?hk ?body
  case ho => (intro w; k_is)
  case hcd => (intro w; k_is)
  case hb => (intro w s vs' _ h; obtain ⟨_, _, _, _, rfl⟩ := len4 h; exact BindsTo.of_eq rfl)
  case ml => exact .arg (.arg (.cel (.arg (.loc (.loc (.loc (.loc (.loc .nil))))))))
  case hn => rfl
  case hn2 => exact (by decide +kernel : [sN "self", sN "buffer", sN "end", sN "rows", sN "runs", sN "markers", sN "marker", sN "piece"].Nodup)
  case hn3 => decide +kernel
  case hn4 => decide +kernel
  case hcs => exact fun _ => rfl
  case hca => (intro n; exact cells1 (x := sN "start") (f := fun x => List.lookup x _) (by decide +kernel))
  case hcl => exact fun n => .val (.tail _ (.tail _ (.head _))) .nil
  case hco => rfl
  case hgen => rfl
  case hk => rfl
  case body =>
  intro c K n hcl hK
  have hst : c.cl.lookup (sN "start") = some n := lk_eq hcl rfl
  (dsimp only [List.cons_append, List.nil_append])
  refine' X.iteF (Ts.to ?xt1 ?xe1) ?xk1
  case xt1 => walk_at "h_ts"
  case xe1 => exact rfl
  case xk1 =>
  refine' X.nilT ?_
  refine' X.assignE rfl (Ex.ite (p := true) (Ts.cmp ?a Ev.none Cmp.isN rfl) (fun _ => Ex.list .nil rfl fun rw => ⟨_, ?sl, ?k⟩) (fun h => by cases h))
  case a => walk_at "h_ev"
  case sl => walk_at "h_setl"
  case k =>
  refine' X.compNone ?sw (clos_eq hcl ?clos) ?hc1 ?hk1 ?hn1 (fun _ => rfl) ?he ?hm (fun rr => ⟨_, ?sl2, ?k2⟩)
  case sw => rfl
  case clos => rfl
  case hc1 => decide +kernel
  case hk1 => rfl
  case hn1 => decide +kernel
  case he => walk_at "h_ev"
  case hm => walk_at "h_mem"
  case sl2 => walk_at "h_setl"
  case k2 =>
  refine' X.assignE rfl (Ex.list .nil rfl fun ml => ⟨_, ?sl3, ?k3⟩)
  case sl3 => walk_at "h_setl"
  case k3 =>
  have inv : ∀ (N : ALed) (tv : List Value), tgCan ⟨b, x, cl, mx, rd, ln, rc, u, room, bv⟩ ⟨pt, zv, nk, ck, sv, A, G, B, ms, nt, rl, vs⟩ ml rr n st N tv = tgCan ⟨b, x, cl, mx, rd, ln, rc, u, room, bv⟩ ⟨pt, zv, nk, ck, sv, A, G, B, ms, nt, rl, vs⟩ ml rr n st N tv := fun _ _ => rfl
  refine' X.forL (TgJ b rc (tgCan ⟨b, x, cl, mx, rd, ln, rc, u, room, bv⟩ ⟨pt, zv, nk, ck, sv, A, G, B, ms, nt, rl, vs⟩ ml rr n st) ms T rw rr ml st nd) (Ex.perm (Ex.meth (within_H mx rd (.ref b) ms st nd rfl hz ha) ?ho ?hm ?ha ?Sp ?hns ?hno ?h1 ?h2 ?h3 ?hk ?hl ?he ?hp)) (fun _ => rfl)
  walk_at "h_meth"
  case hp =>
  intro D
  refine' ⟨(D, .list ((ms.filter (inM st nd)).map fun m => Value.ref m.p)) :: tgCan ⟨b, x, cl, mx, rd, ln, rc, u, room, bv⟩ ⟨pt, zv, nk, ck, sv, A, G, B, ms, nt, rl, vs⟩ ml rr n st T [], _, ?S, ⟨D, _, _, rfl, Rem.head, ⟨none, [], _, T, [], rfl, rfl, rfl, fun _ h => h, .nil, rfl⟩, ?done, ?turn⟩⟩
  case S => (simp only [List.cons_append, List.nil_append]); walk_at "h_split"
  case turn =>
    rintro I it ob v r lo led ⟨v0, dn, td, N, tv, rfl, e1, e2, hTN, h3, rfl⟩
    cases td with
    | nil => cases e2
    | cons m td =>
      cases e2
      have hmem : m ∈ ms := (List.mem_filter.mp (e1 ▸ List.mem_append_right _ (.head _))).1
      have ho : mkA (.ref b) m ∈ ms.map (mkA (.ref b)) := List.mem_map_of_mem hmem
      have hle : tv.length ≤ 60 := by
        rw [h3.len, List.length_map]
        exact Nat.le_trans (Nat.le_trans (by rw [e1, List.length_append]; exact Nat.le_add_right _ _ : dn.length ≤ (ms.filter (inM st nd)).length) (List.length_filter_le _ _)) (Nat.le_of_ble_eq_true hz)
      refine' ⟨_, Asg.name ?sl, ?k⟩
      case sl => walk_at "h_setl"
      case k =>
      refine' X.expr rfl ?_
      walk_at "h_appendE"
      case he =>
      refine' Ex.tup (vs := [.ref m.p, .int (mdist st nd m.v m.y) 0]) (.cons rfl ?v1 (.cons rfl (Ev.call (mdist_H st nd m.y m.v) ?ha .nil ?hn ?hk ?hg rfl) .nil)) rfl fun d => ⟨_, _, ?R, Nat.le_trans hle (by decide), ?k⟩
      case v1 => walk_at "h_ev"
      case ha => walk_at "h_evs"
      case hn => k_is
      case hk => k_is
      case hg => decide +kernel
      case R => walk_at "h_rep"
      case k =>
      refine' X.tend ?S1 ?S2 ⟨some (.ref m.p), dn ++ [m], td, (d, .tup [.ref m.p, .int (mdist st nd m.v m.y) 0]) :: N, tv ++ [.ref d], rfl, ?e, rfl, fun x hx => .tail _ (hTN x hx), ?h, rfl⟩
      case S1 => walk_at "h_split"
      case S2 => walk_at "h_split"
      case e => rw [e1, List.append_assoc]; rfl
      case h => rw [List.map_append]; exact (h3.mono fun p hp => .tail _ hp).app (.cons (.head _) .nil)
  case done =>
    rintro lo led ⟨v, dn, td, N, tv, rfl, e1, e2, hTN, h3, rfl⟩
    obtain rfl := List.map_eq_nil_iff.mp e2.symm
    rw [List.append_nil] at e1
    rw [← e1] at h3
    clear e1 inv
    have q1 : 0 ≤ st - 1 := by lia
    have q2 : st - 1 ≤ nd - 1 := by lia
    have q3 : nd - 1 ≤ (A.length : Int) + B.length := by lia
    refine' X.assignE rfl (Ex.new (fI := 703) rfl ?hn ?hk ?hg ?hm ?hi ?hf ?hA)
    walk_at "h_new"
    case hA =>
    refine' Exs.cons rfl ?_
    refine' Ex.meth (bcodes_H b x cl mx ln (.ref rc) pt bv zv nk ck sv room _ _ st nd A G B rfl rfl q1 q2 q3 hsz) ?ho ?hm ?ha ?Sp ?hns ?hno ?h1 ?h2 ?h3 ?hk ?hl ?he ?hp
    walk_at "h_meth"
    case hp =>
    intro cr
    (simp only [List.cons_append, List.nil_append])
    refine' Exs.evs ?ev (fun pc => ⟨1, [], _, _, pieceinit_H pc cr rr, rfl, .nil, ⟨rfl, _, ?sl, ?k⟩⟩)
    case ev => walk_at "h_evs"
    case sl => walk_at "h_setl"
    case k =>
    (simp only [List.cons_append, List.nil_append])
    have hcl9 := cut_len (t := A ++ B) h0 h1 (by rw [List.length_append]; exact h2)
    have hcl0 : 0 < (cutL st nd (A ++ B)).length := Int.natCast_pos.mp (by rw [hcl9]; exact Int.sub_pos_of_lt h1)
    have hcl1 : (cutL st nd (A ++ B)).length ≤ 1000 := Nat.le_trans (by rw [cutL, List.length_take, List.length_drop]; exact Nat.le_trans (Nat.min_le_right _ _) (Nat.sub_le _ _)) (by rw [List.length_append]; exact Nat.le_trans (Nat.add_le_add_right (Nat.le_add_right _ _) _) hsz)
    have hdl : (dists st nd ms).length ≤ 60 := by unfold dists; rw [List.length_map]; exact Nat.le_trans (List.length_filter_le _ _) (Nat.le_of_ble_eq_true hz)
    refine' X.expr rfl ?_
    refine' Ex.meth (ndelete_H u rl pc cr rr ml nt vs tv ((pc, .inst 706 (pieF cr rr)) :: (cr, .list (iv (cutL st nd (A ++ B)))) :: (rr, .list []) :: N) (decide (sv < nk)) sv st pt (cutL st nd (A ++ B)) (dists st nd ms) hl hb.tt (.head _) (.tail _ (.head _)) (.tail _ (.tail _ (.head _))) hcl0 hcl1 (h3.mono fun p hp => .tail _ (.tail _ (.tail _ hp))) hdl) ?ho ?hm ?ha ?Sp ?hns ?hno ?h1 ?h2 ?h3 ?hk ?hl ?he ?hp
    walk_at "h_meth"
    case hp =>
    intro N9 vs' hN9 hR9
    (simp only [List.cons_append, List.nil_append])
    have hk := hK N9 vs' (fun p hp => hN9 p (.tail _ (.tail _ (.tail _ (hTN p hp))))) hR9
    refine' X.finF ?S (hk)
    case S => walk_at "h_split"
end
section
open PySem PySem.W PySem.Calls PyProof.Rows PySem.Spec
set_option maxHeartbeats 1000000
theorem tcomes_S (c : CQ) (q : VQ) (T : ALed) (rows : List RW) (st mn : Int) (hl : q.vs.length ≤ 900) (hR : RowsAt T q.vs rows) (hla : LastRw rows (decide (q.sv < q.nk)) q.nt q.sv) (hm : mn ≠ 0) :
    HSpec 3 731 [.ref c.rc, .ref c.b, .int st 0, .int mn 0] (stL c q T) fun K => ∀ N vs', RowsAt N vs' (unRows (decide (q.sv < q.nk)) q.nt q.sv ++ [.i st (st + mn)]) →
      K .none (stL c { q with nt := unNt (decide (q.sv < q.nk)) q.nt q.sv, vs := q.vs ++ vs' } (N ++ T)) := by
  obtain ⟨b, x, cl, mx, rd, ln, rc, u, room, bv⟩ := c
  obtain ⟨pt, zv, nk, ck, sv, A, G, B, ms, nt, rl, vs⟩ := q
  dsimp only at *
  refine' HSpec.intro [sN "self", sN "buffer", sN "start", sN "many"] [] ?ho ?hcd ?hb ?ml ?hn ?hco ?hgen ?hk ?hcell ?body
  walk_at "h_intro"
  case hb => exact arity4 fun _ _ _ _ => rfl
  case body =>
  intro c K hK
  refine' X.expr rfl ?_
  refine' Ex.meth (ninsert_H u rl nt vs rows T (decide (sv < nk)) sv st mn pt hl hR hla hm) ?ho ?hm ?ha ?Sp ?hns ?hno ?h1 ?h2 ?h3 ?hk ?hl ?he ?hp
  walk_at "h_meth"
  case hp =>
  intro N vs' h
  (simp only [List.cons_append, List.nil_append])
  refine' X.finF ?S (hK N vs' h)
  case S => walk_at "h_split"
theorem StIs.mon {c : CQ} {q : VQ} {T T' : ALed} {S : Sem} (h : StIs c q T S) (hs : ∀ p ∈ T, p ∈ T') : StIs c q T' S := ⟨h.tx, h.sz, h.ms, h.zv, h.nk, h.sv, h.nt, h.rows.mono hs, h.asc, h.mz, h.r0, h.r1⟩
theorem out_S (c : CQ) (q : VQ) (T : ALed) (S : Sem) (st nd : Int) (h : StIs c q T S) (h0 : 1 ≤ st) (h1 : st < nd) (h2 : nd ≤ S.tx.length + 1) (hl : S.rows.length ≤ 900) (hb : AtBd S.rows) :
    HSpec 5 76 [.ref c.b, .int st 0, .int nd 0] (stL c q T) fun K => ∀ d q' T', (∀ p ∈ T, p ∈ T') → StIs c q' T' (outS st nd S) → K (.ref d) ((d, .list (iv (cutL st nd S.tx))) :: stL c q' T') := by
  obtain ⟨b, x, cl, mx, rd, ln, rc, u, room, bv⟩ := c
  obtain ⟨pt, zv, nk, ck, sv, A, G, B, ms, nt, rl, vs⟩ := q
  obtain ⟨tx, ms', zv', nk', sv', nt', rows⟩ := S
  obtain ⟨htx, hsz, hms, hzv, hnk, hsv, hnt, hR, ha, hz, r0, r1⟩ := h
  dsimp only at *
  subst htx hms hzv hnk hsv hnt
  have hvl : vs.length ≤ 900 := hR.len ▸ hl
  have htl : (A ++ B).length = A.length + B.length := List.length_append
  have q1 : 0 ≤ st - 1 := by lia
  have q2 : st - 1 ≤ nd - 1 := by lia
  have q3 : nd - 1 ≤ (A.length : Int) + B.length := by lia
  refine' HSpec.intro [sN "buffer", sN "start", sN "end"] [sN "gone"] ?ho ?hcd ?hb ?ml ?hn ?hco ?hgen ?hk ?hcell ?body
  walk_at "h_intro"
  case hb => exact arity3 fun _ _ _ => rfl
  case body =>
  intro c K hK
  refine' X.iteT (Ts.to ?xt1 ?xe1) ?xk1
  case xt1 => walk_at "h_ts"
  case xe1 => exact rfl
  case xk1 =>
  refine' X.expr rfl ?_
  refine' Ex.meth (tgoes_S ⟨b, x, cl, mx, rd, ln, rc, u, room, bv⟩ ⟨pt, zv, nk, ck, sv, A, G, B, ms, nt, rl, vs⟩ T st nd hsz ha hz h0 h1 (by lia) hvl (hR.bd hb)) ?ho ?hm ?ha ?Sp ?hns ?hno ?h1 ?h2 ?h3 ?hk ?hl ?he ?hp
  walk_at "h_meth"
  case hp =>
  intro N vs' hN hR'
  (simp only [List.cons_append, List.nil_append, List.append_nil])
  refine' X.nilT ?_
  refine' X.assignE rfl ?_
  refine' Ex.meth (delete_H x cl room _ _ (st - 1) (nd - 1) A G B rfl rfl q1 q2 q3 hsz) ?ho ?hm ?ha ?Sp ?hns ?hno ?h1 ?h2 ?h3 ?hk ?hl ?he ?hp
  walk_at "h_meth"
  case hp =>
  intro d gs' ge' A' G' B' e1 e2 e3 e4
  subst e1 e2
  (simp only [List.cons_append, List.nil_append])
  refine' ⟨_, ?sl2, ?k2⟩
  case sl2 => walk_at "h_setl"
  case k2 =>
  walk_at "h_setattr"
  case k =>
  have fin : ∀ pt', K (.ref d) ((d, .list (iv (cutL st nd (A ++ B)))) :: stL ⟨b, x, cl, mx, rd, ln, rc, u, room, bv⟩ ⟨pt', zv - (nd - st), nk, ck, sv, A', G', B', ms, unNt (decide (sv < nk)) nt sv, rl, vs ++ vs'⟩ N) := fun pt' => hK d _ N hN ⟨e3, e4, rfl, rfl, rfl, rfl, rfl, (hR.mono hN).app hR', ha, hz, r0, r1⟩
  refine' X.ite ?t ?y ?n
  case t => walk_at "h_ts"
  case y =>
    intro hy
    walk_at "h_setattr"
    case k =>
    refine' X.nilT ?_
    refine' X.ret ?h ?S (fin _)
    case h => walk_at "h_ev"
    case S => walk_at "h_split"
  case n =>
    intro hn
    refine' X.nilT ?_
    refine' X.ret ?h ?S (fin _)
    case h => walk_at "h_ev"
    case S => walk_at "h_split"
end
section
open PySem PySem.W PySem.Calls PyProof.Rows PySem.Spec
set_option maxHeartbeats 1000000
theorem in_S (c : CQ) (q : VQ) (T : ALed) (S : Sem) (cr : Addr) (pl : Int) (cs : List Int) (h : StIs c q T S) (hc : (cr, AO.list (iv cs)) ∈ T) (h0 : 1 ≤ pl) (h1 : pl ≤ S.tx.length + 1) (hn : cs ≠ []) (hl : S.rows.length ≤ 900) (hz : S.tx.length + cs.length ≤ 900) (hla : LastRw S.rows (imS S) S.nt S.sv) :
    HSpec 4 83 [.ref c.b, .int pl 0, .ref cr] (stL c q T) fun K => ∀ q' T', (∀ p ∈ T, p ∈ T') → StIs c q' T' (inS pl cs S) → K .none (stL c q' T') := by
  obtain ⟨b, x, cl, mx, rd, ln, rc, u, room, bv⟩ := c
  obtain ⟨pt, zv, nk, ck, sv, A, G, B, ms, nt, rl, vs⟩ := q
  obtain ⟨tx, ms', zv', nk', sv', nt', rows⟩ := S
  obtain ⟨htx, hsz, hms, hzv, hnk, hsv, hnt, hR, ha, hmz, r0, r1⟩ := h
  dsimp only at *
  subst htx hms hzv hnk hsv hnt
  have hvl : vs.length ≤ 900 := hR.len ▸ hl
  have htl : (A ++ B).length = A.length + B.length := List.length_append
  have hm0 : (cs.length : Int) ≠ 0 := fun e => hn (List.eq_nil_of_length_eq_zero (Int.ofNat.inj e))
  have hcl : cs.length ≤ 1000 := by lia
  have hil : (iv cs).length ≤ 1000 := by rw [List.length_map]; exact hcl
  obtain ⟨T1, T2, rfl⟩ := List.append_of_mem hc
  refine' HSpec.intro [sN "buffer", sN "place", sN "codes"] [] ?ho ?hcd ?hb ?ml ?hn ?hco ?hgen ?hk ?hcell ?body
  walk_at "h_intro"
  case hb => exact arity3 fun _ _ _ => rfl
  case body =>
  intro c K hK
  refine' X.iteT (Ts.to ?xt1 ?xe1) ?xk1
  case xt1 => walk_at "h_ts"
  case xe1 => exact rfl
  case xk1 =>
  refine' X.expr rfl ?_
  refine' Ex.meth (tcomes_S ⟨b, x, cl, mx, rd, ln, rc, u, room, bv⟩ ⟨pt, zv, nk, ck, sv, A, G, B, ms, nt, rl, vs⟩ (T1 ++ (cr, .list (iv cs)) :: T2) rows pl cs.length hvl hR hla hm0) ?ho ?hm ?ha ?Sp ?hns ?hno ?h1 ?h2 ?h3 ?hk ?hl ?he ?hp
  walk_at "h_meth"
  case hp =>
  intro N vs' hN
  (simp only [List.cons_append, List.nil_append, List.append_nil])
  refine' X.nilT ?_
  refine' X.expr rfl ?_
  refine' Ex.meth (insert_H x cl cr room _ _ (pl - 1) A G B cs rfl rfl r0 (by lia) hsz (by lia) (by lia)) ?ho ?hm ?ha ?Sp ?hns ?hno ?h1 ?h2 ?h3 ?hk ?hl ?he ?hp
  walk_at "h_meth"
  case hp =>
  intro gs' ge' A' G' B' e1 e2 e3 e4
  subst e1 e2
  (simp only [List.cons_append, List.nil_append])
  walk_at "h_setattr"
  case k =>
  have fin : ∀ pt', K .none (stL ⟨b, x, cl, mx, rd, ln, rc, u, room, bv⟩ ⟨pt', zv + cs.length, nk, ck, sv, A', G', B', ms, unNt (decide (sv < nk)) nt sv, rl, vs ++ vs'⟩ ((cr, .list (iv cs)) :: (N ++ (T1 ++ T2)))) := by
    have hs : ∀ p ∈ T1 ++ (cr, AO.list (iv cs)) :: T2, p ∈ (cr, AO.list (iv cs)) :: (N ++ (T1 ++ T2)) := fun p hp => by
      rcases List.mem_append.mp hp with h | h
      · exact .tail _ (List.mem_append_right _ (List.mem_append_left _ h))
      · cases h with
        | head => exact .head _
        | tail _ h => exact .tail _ (List.mem_append_right _ (List.mem_append_right _ h))
    exact fun pt' => hK _ _ hs ⟨e3, e4, rfl, rfl, rfl, rfl, rfl, (hR.mono hs).app (hN.mono fun p h => .tail _ (List.mem_append_left _ h)), ha, hmz, r0, r1⟩
  refine' X.ite ?t ?y ?n
  case t => walk_at "h_ts"
  case y =>
    intro hy
    walk_at "h_setattr"
    case k =>
    refine' X.nilT ?_
    refine' X.finF ?S (fin _)
    case S => walk_at "h_split"
  case n =>
    intro hn'
    refine' X.nilT ?_
    refine' X.finF ?S (fin _)
    case S => walk_at "h_split"
end
section
open PySem PySem.W PySem.Calls PyProof.Rows PySem.Spec
set_option maxHeartbeats 1000000
theorem hungo_H (b x mx ln : Addr) (un : Value) (pt bv zv nk ck sv st nd : Int) : HSpec 1 90 [.ref b, .int st 0, .int nd 0] [(b, .inst 673 (bufF x mx ln un pt bv zv nk ck sv))] fun K => K .none [(b, .inst 673 (bufF x mx ln un pt bv zv nk ck sv))] := by
  refine' HSpec.intro [sN "buffer", sN "start", sN "end"] [] ?ho ?hcd ?hb ?ml ?hn ?hco ?hgen ?hk ?hcell ?body
  walk_at "h_intro"
  case hb => exact arity3 fun _ _ _ => rfl
  case body =>
  intro c K hK
  refine' X.iteF (Ts.to ?xt1 ?xe1) ?xk1
  case xt1 => walk_at "h_ts"
  case xe1 => exact rfl
  case xk1 =>
  refine' X.nilT ?_
  refine' X.iteF (Ts.to ?xt2 ?xe2) ?xk2
  case xt2 => walk_at "h_ts"
  case xe2 => exact rfl
  case xk2 =>
  refine' X.nilT ?_
  refine' X.finF ?S (hK)
  case S => walk_at "h_split"
theorem hungi_H (b x mx ln : Addr) (un : Value) (pt bv zv nk ck sv st nd : Int) (bf : Bool) : HSpec 1 97 [.ref b, .int st 0, .int nd 0, .bool bf] [(b, .inst 673 (bufF x mx ln un pt bv zv nk ck sv))] fun K => K .none [(b, .inst 673 (bufF x mx ln un pt bv zv nk ck sv))] := by
  refine' HSpec.intro [sN "buffer", sN "place", sN "many", sN "before_markers"] [] ?ho ?hcd ?hb ?ml ?hn ?hco ?hgen ?hk ?hcell ?body
  walk_at "h_intro"
  case hb => exact arity4 fun _ _ _ _ => rfl
  case body =>
  intro c K hK
  refine' X.iteF (Ts.to ?xt3 ?xe3) ?xk3
  case xt3 => walk_at "h_ts"
  case xe3 => exact rfl
  case xk3 =>
  refine' X.nilT ?_
  refine' X.iteF (Ts.to ?xt4 ?xe4) ?xk4
  case xt4 => walk_at "h_ts"
  case xe4 => exact rfl
  case xk4 =>
  refine' X.nilT ?_
  refine' X.finF ?S (hK)
  case S => walk_at "h_split"
theorem put_S (c : CQ) (q : VQ) (T : ALed) (S : Sem) (cr : Addr) (pl : Int) (cs : List Int) (bf pb : Bool) (h : StIs c q T S) (hc : (cr, AO.list (iv cs)) ∈ T) (h0 : c.bv ≤ pl) (h1 : pl ≤ S.zv) (hb : 1 ≤ c.bv) (he : S.zv ≤ S.tx.length + 1) (hn : cs ≠ []) (hl : S.rows.length ≤ 900) (hz : S.tx.length + cs.length ≤ 900) (hla : LastRw S.rows (imS S) S.nt S.sv) :
    HSpec 6 104 [.ref c.b, .int pl 0, .ref cr, .bool bf, .bool pb] (stL c q T) fun K => ∀ q' T', (∀ p ∈ T, p ∈ T') → StIs c q' T' (insS pl cs bf S) → K .none (stL c q' T') := by
  have hS := fun pt => in_S c { q with pt := pt } T S cr pl cs ⟨h.tx, h.sz, h.ms, h.zv, h.nk, h.sv, h.nt, h.rows, h.asc, h.mz, h.r0, h.r1⟩ hc (by lia) (by lia) hn hl hz hla
  have hzz := h.zv
  have hil : (iv cs).length ≤ 1000 := by rw [List.length_map]; lia
  have hm0 : decide ((cs.length : Int) = 0) = false := decide_eq_false fun e => hn (List.eq_nil_of_length_eq_zero (Int.ofNat.inj e))
  obtain ⟨b, x, cl, mx, rd, ln, rc, u, room, bv⟩ := c
  obtain ⟨pt, zv, nk, ck, sv, A, G, B, ms, nt, rl, vs⟩ := q
  clear h
  dsimp only at *
  subst hzz
  refine' HSpec.intro [sN "buffer", sN "place", sN "codes", sN "before_markers", sN "is_point_behind"] [] ?ho ?hcd ?hb ?ml ?hn ?hco ?hgen ?hk ?hcell ?body
  walk_at "h_intro"
  case hb => exact arity5 fun _ _ _ _ _ => rfl
  case body =>
  intro c K hK
  refine' X.expr rfl ?_
  refine' Ex.call (needw_H b x mx ln _ pt bv _ nk ck sv) ?ha ?Sp ?hn ?hk ?hg ?hl ?hp
  walk_at "h_call"
  case hp =>
  (dsimp only [List.cons_append, List.nil_append])
  refine' X.expr rfl ?_
  refine' Ex.call (reached_H b x mx ln _ pt bv _ nk ck sv pl pl h0 (Int.le_refl _) h1) ?ha ?Sp ?hn ?hk ?hg ?hl ?hp
  walk_at "h_call"
  case hp =>
  intro d
  (dsimp only [List.cons_append, List.nil_append])
  refine' X.drop (led1 := stL ⟨b, x, cl, mx, rd, ln, rc, u, room, bv⟩ ⟨pt, S.zv, nk, ck, sv, A, G, B, ms, nt, rl, vs⟩ T) ?S1 ?k1
  case S1 => walk_at "h_split"
  case k1 =>
  refine' X.iteF (Ts.to ?xt5 ?xe5) ?xk5
  case xt5 => walk_at "h_ts"
  case xe5 => exact hm0
  case xk5 =>
  refine' X.nilT ?_
  refine' X.expr rfl ?_
  refine' Ex.call (tella_H b x mx ln _ pt bv _ nk ck sv pl pl) ?ha ?Sp ?hn ?hk ?hg ?hl ?hp
  walk_at "h_call"
  case hp =>
  (dsimp only [List.cons_append, List.nil_append])
  refine' X.expr rfl ?_
  refine' Ex.call (hS pt) ?ha ?Sp ?hn ?hk ?hg ?hl ?hp
  walk_at "h_call"
  case hp =>
  intro q' T' hT hq
  obtain ⟨pt', zv', nk', ck', sv', A', G', B', ms', nt', rl', vs'⟩ := q'
  obtain ⟨htx, hsz, hms, hzv, hnk, hsv, hnt, hR, ha, hmz, r0, r1⟩ := hq
  dsimp only at *
  (simp only [List.cons_append, List.nil_append, List.append_nil])
  refine' X.iteK (fun led => ∃ pt, led = stL ⟨b, x, cl, mx, rd, ln, rc, u, room, bv⟩ ⟨pt, zv', nk', ck', sv', A', G', B', ms', nt', rl', vs'⟩ T') ?t ?y ?n ?kk
  case t => walk_at "h_ts"
  case n => exact fun _ => X.nil ⟨rfl, _, rfl⟩
  case y =>
    intro _
    have hc' := hT _ hc
    walk_at "h_setattr"
    case k =>
    exact X.nil ⟨rfl, _, rfl⟩
  case kk =>
  rintro led ⟨pt3, rfl⟩
  have hc' := hT _ hc
  refine' X.expr rfl ?_
  refine' Ex.meth (inserted_H mx rd (.ref b) ms' pl (pl + cs.length) bf rfl hmz ha) ?ho ?hm ?ha ?Sp ?hns ?hno ?h1 ?h2 ?h3 ?hk ?hl ?he ?hp
  walk_at "h_meth"
  case hp =>
  (simp only [List.cons_append, List.nil_append, List.append_nil])
  refine' X.expr rfl ?_
  refine' Ex.call (hungi_H b x mx ln _ pt3 bv _ nk' ck' sv' pl cs.length bf) ?ha ?Sp ?hn ?hk ?hg ?hl ?hp
  walk_at "h_call"
  case hp =>
  (simp only [List.cons_append, List.nil_append, List.append_nil])
  refine' X.expr rfl ?_
  refine' Ex.call (tellb_H b x mx ln _ pt3 bv _ nk' ck' sv' pl (pl + cs.length) 0) ?ha ?Sp ?hn ?hk ?hg ?hl ?hp
  walk_at "h_call"
  case hp =>
  (simp only [List.cons_append, List.nil_append, List.append_nil])
  have kk := hK ⟨pt3, zv', nk' + 1, nk' + 1, sv', A', G', B', ms'.map (adjM (insAdj pl (pl + cs.length) bf)), nt', rl', vs'⟩ T' hT ⟨htx, hsz, congrArg _ hms, hzv, congrArg (· + 1) hnk, hsv, hnt, hR, asc_adj ha, by rw [List.length_map]; exact hmz, r0, r1⟩
  refine' X.finF ?S (kk)
  case S => walk_at "h_split"
end
section
open PySem PySem.W PySem.Calls PyProof.Rows PySem.Spec
set_option maxHeartbeats 1000000
noncomputable abbrev PutPost (c : CQ) (T : ALed) (S : Sem) (K : Value → ALed → Prop) : Prop := ∀ q' T', (∀ p ∈ T, p ∈ T') → StIs c q' T' S → K .none (stL c q' T')
theorem insat_S (c : CQ) (q : VQ) (T : ALed) (S : Sem) (cr : Addr) (pl : Int) (cs : List Int) (bf : Bool) (h : StIs c q T S) (hc : (cr, AO.list (iv cs)) ∈ T) (h0 : c.bv ≤ pl) (h1 : pl ≤ S.zv) (hb : 1 ≤ c.bv) (he : S.zv ≤ S.tx.length + 1) (hn : cs ≠ []) (hl : S.rows.length ≤ 900) (hz : S.tx.length + cs.length ≤ 900) (hla : LastRw S.rows (imS S) S.nt S.sv) :
    HSpec 7 112 [.ref c.b, .int pl 0, .ref cr, .bool bf] (stL c q T) fun K => PutPost c T (insS pl cs bf S) K := by
  have hp := put_S c q T S cr pl cs bf false h hc h0 h1 hb he hn hl hz hla
  refine' HSpec.introC [sN "buffer", sN "place", sN "codes", sN "before_markers"] [] [] (fun _ => []) (fun _ => []) ?ho ?hcd ?hb ?ml ?hn ?hn2 ?hn3 ?hn4 ?hcs ?hca ?hcl ?hco ?hgen ?hk ?body
  case ho => (intro w; k_is)
  case hcd => (intro w; k_is)
  case hb => (intro w s vs' X h; obtain ⟨_, _, _, _, rfl⟩ := len4 h; exact binds_K X rfl (by k_is) rfl rfl rfl)
  case ml => exact .arg (.arg (.arg (.arg (.nil))))
  case hn => rfl
  case hn2 => exact (by decide +kernel : [sN "buffer", sN "place", sN "codes", sN "before_markers"].Nodup)
  case hn3 => decide +kernel
  case hn4 => decide +kernel
  case hcs => exact fun _ => rfl
  case hca => exact fun n => cells0 (f := fun x => List.lookup x _)
  case hcl => exact fun _ => .nil
  case hco => rfl
  case hgen => rfl
  case hk => rfl
  case body =>
  intro c' K n _ hK
  (dsimp only [List.nil_append])
  refine' X.expr rfl ?_
  refine' Ex.call (hp) ?ha ?Sp ?hn ?hk ?hg ?hl ?hp
  walk_at "h_call"
  case hp =>
  intro q' T' hT hq
  refine' X.finF ?S (hK q' T' hT hq)
  case S => walk_at "h_split"
theorem insert_S (c : CQ) (q : VQ) (T : ALed) (S : Sem) (cr : Addr) (cs : List Int) (h : StIs c q T S) (hc : (cr, AO.list (iv cs)) ∈ T) (h0 : c.bv ≤ q.pt) (h1 : q.pt ≤ S.zv) (hb : 1 ≤ c.bv) (he : S.zv ≤ S.tx.length + 1) (hn : cs ≠ []) (hl : S.rows.length ≤ 900) (hz : S.tx.length + cs.length ≤ 900) (hla : LastRw S.rows (imS S) S.nt S.sv) :
    HSpec 7 120 [.ref c.b, .ref cr] (stL c q T) fun K => PutPost c T (insS q.pt cs false S) K := by
  have hp := put_S c q T S cr q.pt cs false true h hc h0 h1 hb he hn hl hz hla
  refine' HSpec.introC [sN "buffer", sN "codes", sN "before_markers"] [] [.bool false] (fun _ => []) (fun _ => []) ?ho ?hcd ?hb ?ml ?hn ?hn2 ?hn3 ?hn4 ?hcs ?hca ?hcl ?hco ?hgen ?hk ?body
  case ho => (intro w; k_is)
  case hcd => (intro w; k_is)
  case hb => (intro w s vs' X h; obtain ⟨_, _, rfl⟩ := len2 (Nat.succ.inj h); exact binds_K X rfl (by k_is) rfl rfl rfl)
  case ml => exact .arg (.arg (.arg (.nil)))
  case hn => rfl
  case hn2 => exact (by decide +kernel : [sN "buffer", sN "codes", sN "before_markers"].Nodup)
  case hn3 => decide +kernel
  case hn4 => decide +kernel
  case hcs => exact fun _ => rfl
  case hca => exact fun n => cells0 (f := fun x => List.lookup x _)
  case hcl => exact fun _ => .nil
  case hco => rfl
  case hgen => rfl
  case hk => rfl
  case body =>
  intro c' K n _ hK
  (dsimp only [List.nil_append])
  refine' X.expr rfl ?_
  refine' Ex.call (hp) ?ha ?Sp ?hn ?hk ?hg ?hl ?hp
  walk_at "h_call"
  case hp =>
  intro q' T' hT hq
  refine' X.finF ?S (hK q' T' hT hq)
  case S => walk_at "h_split"
theorem piece_S (c : CQ) (q : VQ) (T : ALed) (S : Sem) (pc cr rr : Addr) (cs : List Int) (h : StIs c q T S) (hp : (pc, AO.inst 706 (pieF cr rr)) ∈ T) (hc : (cr, AO.list (iv cs)) ∈ T) (h0 : c.bv ≤ q.pt) (h1 : q.pt ≤ S.zv) (hb : 1 ≤ c.bv) (he : S.zv ≤ S.tx.length + 1) (hn : cs ≠ []) (hl : S.rows.length ≤ 900) (hz : S.tx.length + cs.length ≤ 900) (hla : LastRw S.rows (imS S) S.nt S.sv) :
    HSpec 8 177 [.ref c.b, .ref pc] (stL c q T) fun K => PutPost c T (insS q.pt cs false S) K := by
  have hp := insert_S c q T S cr cs h hc h0 h1 hb he hn hl hz hla
  refine' HSpec.introC [sN "buffer", sN "piece"] [sN "rows"] [] (fun n => [(sN "start", n)]) (fun n => [(n, .cell none)]) ?ho ?hcd ?hb ?ml ?hn ?hn2 ?hn3 ?hn4 ?hcs ?hca ?hcl ?hco ?hgen ?hk ?body
  case ho => (intro w; k_is)
  case hcd => (intro w; k_is)
  case hb => (intro w s vs' _ h; obtain ⟨_, _, rfl⟩ := len2 h; exact BindsTo.of_eq rfl)
  case ml => exact .arg (.arg (.loc .nil))
  case hn => rfl
  case hn2 => exact (by decide +kernel : [sN "buffer", sN "piece", sN "rows"].Nodup)
  case hn3 => decide +kernel
  case hn4 => decide +kernel
  case hcs => exact fun _ => rfl
  case hca => (intro n; exact cells1 (x := sN "start") (f := fun x => List.lookup x _) (by decide +kernel))
  case hcl => exact fun n => .non (show ([sN "buffer", sN "piece"].contains (sN "start")) = false by decide +kernel) .nil
  case hco => rfl
  case hgen => rfl
  case hk => rfl
  case body =>
  intro c' K n hcl hK
  have hst : c'.cl.lookup (sN "start") = some n := lk_eq hcl rfl
  (dsimp only [List.cons_append, List.nil_append])
  refine' X.assignC hst ?ck rfl (Ex.ev ?e ⟨_, ?R, ?k⟩)
  case ck => decide +kernel
  case e => walk_at "h_ev"
  case R => walk_at "h_rep"
  case k =>
  refine' X.expr rfl ?_
  refine' Ex.call (hp) ?ha ?Sp ?hn ?hk ?hg ?hl ?hp
  walk_at "h_call"
  case hp =>
  intro q' T' hT hq
  (dsimp only [List.cons_append, List.nil_append])
  refine' X.iteF (Ts.to (Ts.and (p := false) (q := false) (Ts.cmp ?t1 Ev.none Cmp.isnotN rfl) (fun h => absurd h Bool.false_ne_true)) rfl) ?k2
  case t1 => walk_at "h_ev"
  case k2 =>
  refine' X.nilT ?_
  refine' X.finF ?S (hK q' T' hT hq)
  case S => walk_at "h_split"
end
section
open PySem PySem.W PySem.Calls PyProof.Rows PySem.Spec
set_option maxHeartbeats 1000000
noncomputable abbrev CutPost (c : CQ) (T : ALed) (ds : List Int) (S : Sem) (K : Value → ALed → Prop) : Prop := ∀ d q' T', (∀ p ∈ T, p ∈ T') → StIs c q' T' S → K (.ref d) ((d, .list (iv ds)) :: stL c q' T')
theorem delete_S (c : CQ) (q : VQ) (T : ALed) (S : Sem) (st nd : Int) (h : StIs c q T S) (h0 : c.bv ≤ st) (h1 : st < nd) (h2 : nd ≤ S.zv) (hb : 1 ≤ c.bv) (he : S.zv ≤ S.tx.length + 1) (hl : S.rows.length ≤ 900) (ht : AtBd S.rows) :
    HSpec 6 127 [.ref c.b, .int st 0, .int nd 0] (stL c q T) fun K => CutPost c T (cutL st nd S.tx) (delS st nd S) K := by
  have hS := out_S c q T S st nd h (by lia) h1 (by lia) hl ht
  have hzz := h.zv
  have hne : decide (st = nd) = false := decide_eq_false (Int.ne_of_lt h1)
  obtain ⟨b, x, cl, mx, rd, ln, rc, u, room, bv⟩ := c
  obtain ⟨pt, zv, nk, ck, sv, A, G, B, ms, nt, rl, vs⟩ := q
  clear h
  dsimp only at *
  subst hzz
  refine' HSpec.intro [sN "buffer", sN "start", sN "end"] [sN "low", sN "high", sN "gone"] ?ho ?hcd ?hb ?ml ?hn ?hco ?hgen ?hk ?hcell ?body
  walk_at "h_intro"
  case hb => exact arity3 fun _ _ _ => rfl
  case body =>
  intro c K hK
  refine' X.expr rfl ?_
  refine' Ex.call (needw_H b x mx ln _ pt bv _ nk ck sv) ?ha ?Sp ?hn ?hk ?hg ?hl ?hp
  walk_at "h_call"
  case hp =>
  (dsimp only [List.cons_append, List.nil_append])
  refine' X.assignT (Ex.call (reached_H b x mx ln _ pt bv _ nk ck sv st nd h0 (Int.le_of_lt h1) h2) ?ha ?Sp ?hn ?hk ?hg ?hl ?hp) ?hs ?hw
  walk_at "h_call"
  case hs => exact fun _ => rfl
  case hw => with_unfolding_all rfl
  case hp =>
  intro d
  (dsimp only [List.cons_append, List.nil_append])
  refine' ⟨_, Asg.tup (vs := [.int st 0, .int nd 0]) ?m ?s, ?k⟩
  case m => walk_at "h_mem"
  case s => walk_at "h_setts"
  case k =>
  refine' X.drop (led1 := stL ⟨b, x, cl, mx, rd, ln, rc, u, room, bv⟩ ⟨pt, S.zv, nk, ck, sv, A, G, B, ms, nt, rl, vs⟩ T) ?S1 ?k1
  case S1 => walk_at "h_split"
  case k1 =>
  refine' X.iteF (Ts.to ?xt1 ?xe1) ?xk1
  case xt1 => walk_at "h_ts"
  case xe1 => exact hne
  case xk1 =>
  refine' X.nilT ?_
  refine' X.expr rfl ?_
  refine' Ex.call (tella_H b x mx ln _ pt bv _ nk ck sv st nd) ?ha ?Sp ?hn ?hk ?hg ?hl ?hp
  walk_at "h_call"
  case hp =>
  (dsimp only [List.cons_append, List.nil_append])
  refine' X.assignE rfl ?_
  refine' Ex.call (hS) ?ha ?Sp ?hn ?hk ?hg ?hl ?hp
  walk_at "h_call"
  case hp =>
  intro g q' T' hT hq
  obtain ⟨pt', zv', nk', ck', sv', A', G', B', ms', nt', rl', vs'⟩ := q'
  obtain ⟨htx, hsz, hms, hzv, hnk, hsv, hnt, hR, ha, hmz, r0, r1⟩ := hq
  dsimp only at *
  (simp only [List.cons_append, List.nil_append, List.append_nil])
  refine' ⟨_, ?sl2, ?k2⟩
  case sl2 => walk_at "h_setl"
  case k2 =>
  refine' X.expr rfl ?_
  refine' Ex.meth (deleted_H mx rd (.ref b) ms' st nd rfl hmz ha) ?ho ?hm ?ha ?Sp ?hns ?hno ?h1 ?h2 ?h3 ?hk ?hl ?he ?hp
  walk_at "h_meth"
  case hp =>
  (simp only [List.cons_append, List.nil_append, List.append_nil])
  refine' X.expr rfl ?_
  refine' Ex.call (hungo_H b x mx ln _ pt' bv _ nk' ck' sv' st nd) ?ha ?Sp ?hn ?hk ?hg ?hl ?hp
  walk_at "h_call"
  case hp =>
  (simp only [List.cons_append, List.nil_append, List.append_nil])
  refine' X.expr rfl ?_
  refine' Ex.call (tellb_H b x mx ln _ pt' bv _ nk' ck' sv' st st (nd - st)) ?ha ?Sp ?hn ?hk ?hg ?hl ?hp
  walk_at "h_call"
  case hp =>
  (simp only [List.cons_append, List.nil_append, List.append_nil])
  have kk := hK g ⟨pt', zv', nk' + 1, nk' + 1, sv', A', G', B', ms'.map (adjM (fun _ => delAdj st nd)), nt', rl', vs'⟩ T' hT ⟨htx, hsz, congrArg _ hms, hzv, congrArg (· + 1) hnk, hsv, hnt, hR, asc_adj ha, by rw [List.length_map]; exact hmz, r0, r1⟩
  refine' X.ret ?h ?S (kk)
  case h => walk_at "h_ev"
  case S => walk_at "h_split"
end
section
open PySem PySem.W PySem.Calls PyProof.Rows PySem.Spec
set_option maxHeartbeats 1000000
theorem replace_S (c : CQ) (q : VQ) (T : ALed) (S : Sem) (st nd : Int) (cr : Addr) (cs : List Int) (h : StIs c q T S) (hc : (cr, AO.list (iv cs)) ∈ T) (h0 : c.bv ≤ st) (h1 : st < nd) (h2 : nd ≤ S.zv) (hb : 1 ≤ c.bv) (he : S.zv ≤ S.tx.length + 1) (hn : cs ≠ []) (hl : S.rows.length ≤ 900) (hl2 : (outS st nd S).rows.length ≤ 900) (hz : S.tx.length + cs.length ≤ 900) (ht : AtBd S.rows) :
    HSpec 6 134 [.ref c.b, .int st 0, .int nd 0, .ref cr] (stL c q T) fun K => CutPost c T (cutL st nd S.tx) (repS st nd cs S) K := by
  have hS := out_S c q T S st nd h (by lia) h1 (by lia) hl ht
  have htl : (outS st nd S).tx.length ≤ S.tx.length ∧ st ≤ (outS st nd S).tx.length + 1 := by
    have e : ((outS st nd S).tx.length : Int) = S.tx.length - (nd - st) := del_len (t := S.tx) (Int.le_trans hb h0) h1 (Int.le_trans h2 he)
    clear hS hl hl2 hz
    constructor <;> lia
  have hI := fun q T h hc => in_S c q T (outS st nd S) cr st cs h hc (by lia) htl.2 hn hl2 (by lia) (.inr ⟨S.rows ++ (noteRows S ++ mkRows (recS st nd S.ms)), .d st (cutL st nd S.tx), by show S.rows ++ _ = _; simp only [List.append_assoc], .inr ⟨_, _, rfl⟩⟩)
  have hzz := h.zv
  have hne : decide (st = nd) = false := decide_eq_false (Int.ne_of_lt h1)
  have hil : (iv cs).length ≤ 1000 := by rw [List.length_map]; lia
  have hm0 : decide ((cs.length : Int) = 0) = false := decide_eq_false fun e => hn (List.eq_nil_of_length_eq_zero (Int.ofNat.inj e))
  obtain ⟨b, x, cl, mx, rd, ln, rc, u, room, bv⟩ := c
  obtain ⟨pt, zv, nk, ck, sv, A, G, B, ms, nt, rl, vs⟩ := q
  clear h htl
  dsimp only at *
  subst hzz
  refine' HSpec.intro [sN "buffer", sN "start", sN "end", sN "codes"] [sN "low", sN "high", sN "point", sN "gone"] ?ho ?hcd ?hb ?ml ?hn ?hco ?hgen ?hk ?hcell ?body
  walk_at "h_intro"
  case hb => exact arity4 fun _ _ _ _ => rfl
  case body =>
  intro c K hK
  refine' X.expr rfl ?_
  refine' Ex.call (needw_H b x mx ln _ pt bv _ nk ck sv) ?ha ?Sp ?hn ?hk ?hg ?hl ?hp
  walk_at "h_call"
  case hp =>
  (dsimp only [List.cons_append, List.nil_append])
  refine' X.assignT (Ex.call (reached_H b x mx ln _ pt bv _ nk ck sv st nd h0 (Int.le_of_lt h1) h2) ?ha ?Sp ?hn ?hk ?hg ?hl ?hp) ?hs ?hw
  walk_at "h_call"
  case hs => exact fun _ => rfl
  case hw => with_unfolding_all rfl
  case hp =>
  intro d
  (dsimp only [List.cons_append, List.nil_append])
  refine' ⟨_, Asg.tup (vs := [.int st 0, .int nd 0]) ?m ?s, ?k⟩
  case m => walk_at "h_mem"
  case s => walk_at "h_setts"
  case k =>
  refine' X.drop (led1 := stL ⟨b, x, cl, mx, rd, ln, rc, u, room, bv⟩ ⟨pt, S.zv, nk, ck, sv, A, G, B, ms, nt, rl, vs⟩ T) ?S1 ?k1
  case S1 => walk_at "h_split"
  case k1 =>
  refine' X.iteF (Ts.to ?xt1 ?xe1) ?xk1
  case xt1 => walk_at "h_ts"
  case xe1 => exact hne
  case xk1 =>
  refine' X.nilT ?_
  refine' X.iteF (Ts.to ?xt2 ?xe2) ?xk2
  case xt2 => walk_at "h_ts"
  case xe2 => exact hm0
  case xk2 =>
  refine' X.nilT ?_
  walk_at "h_assign"
  case k =>
  refine' X.expr rfl ?_
  refine' Ex.call (tella_H b x mx ln _ pt bv _ nk ck sv st nd) ?ha ?Sp ?hn ?hk ?hg ?hl ?hp
  walk_at "h_call"
  case hp =>
  (dsimp only [List.cons_append, List.nil_append])
  refine' X.assignE rfl ?_
  refine' Ex.call (hS) ?ha ?Sp ?hn ?hk ?hg ?hl ?hp
  walk_at "h_call"
  case hp =>
  intro g q1 T1 hT1 hq1
  (simp only [List.append_nil])
  refine' ⟨_, ?sl3, ?k3⟩
  case sl3 => walk_at "h_setl"
  case k3 =>
  refine' X.expr rfl ?_
  refine' Ex.call (hI q1 T1 hq1 (hT1 _ hc)) ?ha ?Sp ?hn ?hk ?hg ?hl ?hp
  walk_at "h_call"
  case hp =>
  intro q' T' hT2 hq
  have hT := fun p hp => hT2 p (hT1 p hp)
  have hc' := hT _ hc
  obtain ⟨pt', zv', nk', ck', sv', A', G', B', ms', nt', rl', vs'⟩ := q'
  obtain ⟨htx, hsz, hms, hzv, hnk, hsv, hnt, hR, ha, hmz, r0, r1⟩ := hq
  clear hq1 hT1 hT2 hS hI
  dsimp only at *
  refine' X.drop (led1 := (g, .list (iv (cutL st nd S.tx))) :: stL ⟨b, x, cl, mx, rd, ln, rc, u, room, bv⟩ ⟨pt', zv', nk', ck', sv', A', G', B', ms', nt', rl', vs'⟩ T') ?S1 ?k1
  case S1 => (simp only [List.cons_append, List.append_assoc (List.map (mkA _) _)]); walk_at "h_split"
  case k1 =>
  refine' X.iteK (fun led => ∃ pt, led = (g, .list (iv (cutL st nd S.tx))) :: stL ⟨b, x, cl, mx, rd, ln, rc, u, room, bv⟩ ⟨pt, zv', nk', ck', sv', A', G', B', ms', nt', rl', vs'⟩ T') ?t ?y ?n ?kk
  case t => walk_at "h_ts"
  case n => exact fun _ => X.nil ⟨rfl, _, rfl⟩
  case y =>
    intro _
    walk_at "h_setattr"
    case k =>
    exact X.nil ⟨rfl, _, rfl⟩
  case kk =>
  rintro led ⟨pt3, rfl⟩
  refine' X.expr rfl ?_
  refine' Ex.meth (replaced_H mx rd (.ref b) ms' st nd cs.length rfl hmz ha) ?ho ?hm ?ha ?Sp ?hns ?hno ?h1 ?h2 ?h3 ?hk ?hl ?he ?hp
  walk_at "h_meth"
  case hp =>
  (simp only [List.cons_append, List.nil_append, List.append_nil])
  refine' X.expr rfl ?_
  refine' Ex.call (hungo_H b x mx ln _ pt3 bv _ nk' ck' sv' st nd) ?ha ?Sp ?hn ?hk ?hg ?hl ?hp
  walk_at "h_call"
  case hp =>
  (simp only [List.cons_append, List.nil_append, List.append_nil])
  refine' X.expr rfl ?_
  refine' Ex.call (hungi_H b x mx ln _ pt3 bv _ nk' ck' sv' st cs.length false) ?ha ?Sp ?hn ?hk ?hg ?hl ?hp
  walk_at "h_call"
  case hp =>
  (simp only [List.cons_append, List.nil_append, List.append_nil])
  refine' X.expr rfl ?_
  refine' Ex.call (tellb_H b x mx ln _ pt3 bv _ nk' ck' sv' st (st + cs.length) (nd - st)) ?ha ?Sp ?hn ?hk ?hg ?hl ?hp
  walk_at "h_call"
  case hp =>
  (simp only [List.cons_append, List.nil_append, List.append_nil])
  have kk := hK g ⟨pt3, zv', nk' + 1, nk' + 1, sv', A', G', B', ms'.map (adjM (fun _ => repAdj st nd cs.length)), nt', rl', vs'⟩ T' hT ⟨htx, hsz, congrArg _ hms, hzv, congrArg (· + 1) hnk, hsv, hnt, hR, asc_adj ha, by rw [List.length_map]; exact hmz, r0, r1⟩
  refine' X.ret ?h ?S (kk)
  case h => walk_at "h_ev"
  case S => walk_at "h_split"
end
section
open PySem PySem.W PySem.Calls PyProof.Rows PySem.Spec
set_option maxHeartbeats 1000000
noncomputable def renR (k k' : Int) (r : RW) : RW := match r with | .u j => if j = k then .u k' else .u j | x => x
noncomputable abbrev rnL (ow n u rl : Addr) (k k' : Int) (o : Option Int) (N : ALed) : ALed := (ow, .tup [.str (sN "unmodified") 0, .int k 0]) :: (n + 1, .cell (some (.ref ow))) :: (n, .cell (some (.int k' 0))) :: (u, .inst 275 (undF rl (ntV o))) :: N
inductive RnInv (ow n u rl : Addr) (k k' : Int) (o : Option Int) (rows : List RW) (T : ALed) (r ys : List Value) (led : ALed)  : Prop
  | mk (dn td : List RW) (N2 : ALed) (f0 : rows = dn ++ td) (f1 : RowsAt T r td) (f2 : RowsAt (N2 ++ T) ys (dn.map (renR k k'))) (f3 : led = rnL ow n u rl k k' o (N2 ++ T))
theorem renew_H (u rl : Addr) (o : Option Int) (vs : List Value) (rows : List RW) (T : ALed) (k k' : Int) (hl : vs.length ≤ 1000) (hR : RowsAt T vs rows) :
    HSpec 1 265 [.ref u, .int k 0, .int k' 0] ((u, .inst 275 (undF rl (ntV o))) :: (rl, .list vs) :: T) fun K => ∀ x N vs', (∀ p ∈ T, p ∈ N) → RowsAt N vs' (rows.map (renR k k')) → K .none ((u, .inst 275 (undF x (ntV o))) :: (x, .list vs') :: N) := by
  refine' HSpec.introC [sN "self", sN "elder", sN "fresh"] [] [] (fun n => [(sN "own", n + 1), (sN "fresh", n)]) (fun n => [(n + 1, .cell none), (n, .cell (some (.int k' 0)))]) ?ho ?hcd ?hb ?ml ?hn ?hn2 ?hn3 ?hn4 ?hcs ?hca ?hcl ?hco ?hgen ?hk ?body
  case ho => (intro w; k_is)
  case hcd => (intro w; k_is)
  case hb => (intro w s vs' _ h; obtain ⟨_, _, _, rfl⟩ := len3 h; exact BindsTo.of_eq rfl)
  case ml => exact .arg (.arg (.cel .nil))
  case hn => rfl
  case hn2 => exact (by decide +kernel : [sN "self", sN "elder"].Nodup)
  case hn3 => decide +kernel
  case hn4 => decide +kernel
  case hcs => exact fun _ => rfl
  case hca => (intro n; exact cells2 (x := sN "own") (y := sN "fresh") (f := fun x => List.lookup x _) (by decide +kernel) (by decide +kernel) (by decide +kernel))
  case hcl => exact fun n => .non rfl (.val (.tail _ (.tail _ (.head _))) .nil)
  case hco => rfl
  case hgen => rfl
  case hk => rfl
  case body =>
  intro c K n hcl hK
  (dsimp only [List.cons_append, List.nil_append])
  refine' X.assignC (lk_eq hcl ?l) ?cc rfl (Ex.tup ?ev ?z fun ow => ⟨_, ?R, ?k⟩)
  case l => rfl
  case cc => decide +kernel
  case ev => walk_at "h_evs"
  case z => rfl
  case R => walk_at "h_rep"
  case k =>
  have hh : handedIn (ntV o) = true := by cases o <;> rfl
  obtain ⟨bt, bn, hbt⟩ : ∃ t n, (Mine.fr0.heap_1 c.w.params).lookup 190 = some { cls := .type "tuple", data := .seq (List.toArray [Value.str (sN "boundary") t]) n } := by
    obtain ⟨t, h⟩ := bd_top c []
    cases h with
    | led h => cases h
    | @top n h => exact ⟨t, n, h⟩
  refine' X.setattrC (fun _ => rfl) (Ex.compL (led2 := rnL ow n u rl k k' o T) (clos_eq hcl ?clos) ?hc1 ?hk1 ?hn1 ?hx1 ?hx2 (fun _ => rfl) (RnInv ow n u rl k k' o rows T) ?he ?R (Nat.le_trans hl (by decide)) ⟨[], rows, [], rfl, hR, .nil, rfl⟩ ?turn ?fin)
  case clos => rfl
  case hc1 => decide +kernel
  case hk1 => rfl
  case hn1 => decide +kernel
  case hx1 => decide +kernel
  case hx2 => decide +kernel
  case he => walk_at "h_ev"
  case R => walk_at "h_rem"
  case fin =>
    rintro D ys led ⟨dn, td, N2, e1, h1, h2, rfl⟩
    cases h1
    rw [List.append_nil] at e1
    subst e1
    walk_at "h_seta"
    case k =>
    refine' X.finF ?S (hK D (N2 ++ T) ys (fun p hp => List.mem_append_right _ hp) h2)
    case S => walk_at "h_split"
  case turn =>
    rintro ob v r ys led L oL I oI C D oD ⟨dn, td, N2, e1, h1, h2, rfl⟩
    show Ex _ 0 _ _ ((L, .obj oL) :: (I, .obj oI) :: (D, .obj oD) :: (rl, .obj ob) :: rnL ow n u rl k k' o (N2 ++ T)) _ (fun y led3 => ∃ led4, Split led3 [(L, .obj oL), (I, .obj oI), (D, .obj oD), (rl, .obj ob)] led4 ∧ RnInv ow n u rl k k' o rows T r (ys ++ [y]) led4)
    cases h1 with
    | @cons _ x _ xs hx h1 =>
      have keep : ∀ y N3, RowsAt (N3 ++ T) (ys ++ [y]) ((dn ++ [x]).map (renR k k')) → RnInv ow n u rl k k' o rows T r (ys ++ [y]) (rnL ow n u rl k k' o (N3 ++ T)) := fun y N3 h => ⟨dn ++ [x], xs, N3, by rw [e1, List.append_assoc]; rfl, h1, h, rfl⟩
      have same : RowAt T v (renR k k' x) → RnInv ow n u rl k k' o rows T r (ys ++ [v]) (rnL ow n u rl k k' o (N2 ++ T)) := fun h => keep v N2 (by rw [List.map_append]; exact h2.app (.cons (h.mono fun p hp => List.mem_append_right _ hp) .nil))
      obtain ⟨q, tq, b, rfl, hq, hc, ht, hf⟩ : ∃ q tq b, v = .ref q ∧ (∀ (cl : List (Str × Addr)) (A : ALed), TupAt (cmC cl C c) (A ++ T) q tq) ∧ TCmp tq [.str (sN "unmodified") 0, .int k 0] b ∧ (b = true → x = .u k) ∧ (b = false → renR k k' x = x) := by
        cases hx with
        | @u q j h => exact ⟨q, _, _, rfl, fun _ A => .led (List.mem_append_right _ h), .ss (beq_self_eq_true _) .li, fun e => by rw [of_decide_eq_true e], fun e => if_neg (of_decide_eq_false e)⟩
        | @m q p d h => exact ⟨q, _, _, rfl, fun _ A => .led (List.mem_append_right _ h), .ds (by decide +kernel), fun e => (by cases e), fun _ => rfl⟩
        | @d q st pc fl cl rr cs h _ _ _ => exact ⟨q, _, _, rfl, fun _ A => .led (List.mem_append_right _ h), .ds (by decide +kernel), fun e => (by cases e), fun _ => rfl⟩
        | @i q a b h => exact ⟨q, _, _, rfl, fun _ A => .led (List.mem_append_right _ h), .ds (by decide +kernel), fun e => (by cases e), fun _ => rfl⟩
        | b => exact ⟨190, _, _, rfl, fun _ A => .top hbt, .ds (by decide +kernel), fun e => (by cases e), fun _ => rfl⟩
      refine' Ex.ite (Ts.cmp ?t1 (Ev.cell rfl ?t2 ?t3) (Cmp.teq (hq _ ((L, .obj oL) :: (I, .obj oI) :: (D, .obj oD) :: (rl, .obj ob) :: rnL ow n u rl k k' o N2)) (.led ?t4) hc) rfl) ?y ?n
      case t1 => walk_at "h_ev"
      case t2 => walk_at "h_mem"
      case t3 => decide +kernel
      case t4 => walk_at "h_mem"
      case y =>
        intro hb
        have kk : ∀ d, RnInv ow n u rl k k' o rows T r (ys ++ [.ref d]) (rnL ow n u rl k k' o ((d, unT k') :: (N2 ++ T))) := fun d => keep (.ref d) ((d, unT k') :: N2) (by
          rw [List.map_append, ht hb]
          exact (h2.mono fun p hp => .tail _ hp).app (.cons (by rw [show renR k k' (.u k) = .u k' from if_pos rfl]; exact .u (.head _)) .nil))
        refine' Ex.perm (Ex.tup (vs := [.str (sN "unmodified") 0, .int k' 0]) (.cons rfl Ev.str (.cons rfl (Ev.cell rfl ?m1 ?m2) .nil)) rfl fun d => ⟨(L, .obj oL) :: (I, .obj oI) :: (D, .obj oD) :: (rl, .obj ob) :: rnL ow n u rl k k' o ((d, unT k') :: (N2 ++ T)), _, ?S1, ⟨_, ?S, kk d⟩⟩)
        case m1 => walk_at "h_mem"
        case m2 => decide +kernel
        case S1 => walk_at "h_split"
        case S => walk_at "h_split"
      case n =>
        intro hb
        refine' Ex.ev ?v ⟨_, ?S2, same (by rw [hf hb]; exact hx)⟩
        case v => walk_at "h_ev"
        case S2 => walk_at "h_split"
end
section
open PySem PySem.W PySem.Calls PyProof.Rows PySem.Spec
noncomputable def addP (p : Addr) (d : Int) (ms : List MQ) : List MQ := ms.map fun m => if m.p = p then { m with y := m.y - d } else m
noncomputable def addAll (xs : List (Addr × Int)) (ms : List MQ) : List MQ := xs.foldl (fun ms x => addP x.1 x.2 ms) ms
noncomputable def atP (st : Int) (ms : List MQ) (p : Addr) : Bool := ms.any fun m => decide (m.p = p) && decide (m.y = st)
noncomputable def undelS (st : Int) (cs : List Int) (xs : List (Addr × Int)) (S : Sem) : Sem := { insS st cs false S with ms := addAll (xs.filter fun x => atP st S.ms x.1) (insS st cs false S).ms }
noncomputable def renS (S : Sem) : Sem := { S with sv := S.nk, rows := S.rows.map (renR S.sv S.nk) }
noncomputable def bndS (S : Sem) : Sem := { S with rows := S.rows ++ [.b] }
noncomputable def NoM (rows : List RW) : Prop := AtBd rows ∨ ∃ p k, rows = p ++ [.u k]
noncomputable def MsOk (S : Sem) (xs : List (Addr × Int)) : Prop := xs.length ≤ 60 ∧ ∀ x ∈ xs, x.1 ∈ S.ms.map (·.p)
noncomputable def Small (S : Sem) : Prop := S.zv ≤ S.tx.length + 1 ∧ S.tx.length ≤ 600 ∧ S.rows.length ≤ 600
inductive StepU (bv : Int) : List RW → Sem → List RW → Sem → Prop
  | ins {pre : List RW} {a b : Int} {S : Sem} : bv ≤ a → a < b → b ≤ S.zv → Small S → AtBd S.rows → StepU bv (pre ++ [.i a b]) S pre (delS a b S)
  | del {pre : List RW} {xs : List (Addr × Int)} {st : Int} {cs : List Int} {S : Sem} : NoM pre → MsOk S xs → cs ≠ [] → cs.length ≤ 100 → bv ≤ st → st ≤ S.zv → Small S → LastRw S.rows (imS S) S.nt S.sv → StepU bv (pre ++ (mkRows xs ++ [.d st cs])) S pre (undelS st cs xs.reverse S)
  | unm {pre : List RW} {S : Sem} : S.rows.length ≤ 600 → StepU bv (pre ++ [.u S.sv]) S pre (renS S)
inductive StepsU (bv : Int) : List RW → Sem → List RW → Sem → Prop
  | done {rows : List RW} {S : Sem} : AtBd rows → StepsU bv rows S rows S
  | step {rows rows' rows'' : List RW} {S S' S'' : Sem} : ¬ AtBd rows → StepU bv rows S rows' S' → StepsU bv rows' S' rows'' S'' → StepsU bv rows S rows'' S''
noncomputable def GroupU (bv : Int) (rows : List RW) (S : Sem) (rows' : List RW) (S' : Sem) : Prop := ∃ pre, rows = pre ++ [.b] ∧ ¬ AtBd pre ∧ StepsU bv pre S rows' S'
theorem adj_p (f : Bool → Int → Int) (ms : List MQ) : (ms.map (adjM f)).map (·.p) = ms.map (·.p) := by rw [List.map_map]; rfl
theorem addP_p (p : Addr) (d : Int) (ms : List MQ) : (addP p d ms).map (·.p) = ms.map (·.p) := by
  rw [addP, List.map_map]
  exact List.map_congr_left fun m _ => by show MQ.p (if _ then _ else _) = _; split <;> rfl
theorem addP_no {p : Addr} {d : Int} {ms : List MQ} (h : p ∉ ms.map (·.p)) : addP p d ms = ms := by
  rw [addP, List.map_congr_left (g := id) fun m hm => if_neg fun e : m.p = p => h (e ▸ List.mem_map_of_mem (f := (·.p)) hm), List.map_id]
theorem addP_at {m : MQ} {d : Int} {a b : List MQ} (h : ((a ++ m :: b).map (·.p)).Nodup) : addP m.p d (a ++ m :: b) = a ++ { m with y := m.y - d } :: b := by
  rw [List.map_append, List.map_cons, List.nodup_append] at h
  have h2 := List.nodup_cons.mp h.2.1
  have e : addP m.p d (a ++ m :: b) = addP m.p d a ++ (if m.p = m.p then { m with y := m.y - d } else m) :: addP m.p d b := by
    rw [addP, List.map_append, List.map_cons]; rfl
  rw [e, if_pos rfl, addP_no fun hm => h.2.2 _ hm _ (.head _) rfl, addP_no h2.1]
theorem addAll_p (xs : List (Addr × Int)) : ∀ ms : List MQ, (addAll xs ms).map (·.p) = ms.map (·.p) := by
  induction xs with
  | nil => exact fun _ => rfl
  | cons x xs ih => exact fun ms => (ih _).trans (addP_p _ _ _)
theorem addAll_snoc (xs : List (Addr × Int)) (x : Addr × Int) (ms : List MQ) : addAll (xs ++ [x]) ms = addP x.1 x.2 (addAll xs ms) := List.foldl_append
theorem addP_i (p : Addr) (d : Int) (ms : List MQ) : (addP p d ms).map (·.i) = ms.map (·.i) := by
  rw [addP, List.map_map]
  exact List.map_congr_left fun m _ => by show MQ.i (if _ then _ else _) = _; split <;> rfl
theorem asc_addP {p : Addr} {d : Int} {ms : List MQ} (h : MsAsc ms) : MsAsc (addP p d ms) := by unfold MsAsc at h ⊢; rw [addP_i]; exact h
theorem kv_addP (p : Addr) (d : Int) (ms : List MQ) : kvM (addP p d ms) = kvM ms := by
  rw [kvM, addP, List.map_map]
  exact List.map_congr_left fun m _ => by show (MQ.i (if _ then _ else _), Value.ref (MQ.p (if _ then _ else _))) = _; split <;> rfl
theorem atP_at {st : Int} {m : MQ} {a b : List MQ} (h : ((a ++ m :: b).map (·.p)).Nodup) : atP st (a ++ m :: b) m.p = decide (m.y = st) := by
  rw [List.map_append, List.map_cons, List.nodup_append] at h
  have h2 := List.nodup_cons.mp h.2.1
  have no : ∀ l : List MQ, m.p ∉ l.map (·.p) → atP st l m.p = false := fun l hl => List.any_eq_false.mpr fun x hx => by
    rw [decide_eq_false fun e : x.p = m.p => hl (e ▸ List.mem_map_of_mem (f := (·.p)) hx)]; exact Bool.false_ne_true
  have e : atP st (a ++ m :: b) m.p = (atP st a m.p || ((decide (m.p = m.p) && decide (m.y = st)) || atP st b m.p)) := by rw [atP, List.any_append, List.any_cons]; rfl
  rw [e, no a fun hm => h.2.2 _ hm _ (.head _) rfl, no b h2.1, decide_eq_true rfl, Bool.false_or, Bool.or_false, Bool.true_and]
end
section
open PySem PySem.W PySem.Calls PyProof.Rows PySem.Spec
set_option maxHeartbeats 1000000
theorem needv_H (b x mx ln : Addr) (un : Value) (pt bv zv nk ck sv st nd : Int) (h1 : bv ≤ st) (h2 : nd ≤ zv) : HSpec 1 293 [.ref b, .int st 0, .int nd 0] [(b, .inst 673 (bufF x mx ln un pt bv zv nk ck sv))] fun K => K .none [(b, .inst 673 (bufF x mx ln un pt bv zv nk ck sv))] := by
  refine' HSpec.intro [sN "buffer", sN "start", sN "end"] [] ?ho ?hcd ?hb ?ml ?hn ?hco ?hgen ?hk ?hcell ?body
  walk_at "h_intro"
  case hb => exact arity3 fun _ _ _ => rfl
  case body =>
  intro c K hK
  refine' X.iteF (Ts.to ?xt1 ?xe1) ?xk1
  case xt1 => walk_at "h_ts"
  case xe1 => exact (or2F (Int.not_lt.mpr h1) (Int.not_lt.mpr h2))
  case xk1 =>
  refine' X.nilT ?_
  refine' X.finF ?S (hK)
  case S => walk_at "h_split"
theorem ts_bd {F : Fn} {lev : Nat} {c : Cx} {lo : Lo} {led : ALed} {e1 e2 : Expr} {pos : Pos} {q : Addr} {b : Bool} (h1 : Ev F lev c lo led e1 (.ref q)) (h2 : Ev F lev c lo led e2 (.ref 190)) (hm : behindInMarks .Eq e2 = false) (h : (q = 190 ∧ b = true) ∨ (∃ tag rest, (q, AO.tup (.str tag 0 :: rest)) ∈ led ∧ (tag == sN "boundary") = false ∧ b = false)) : Ts F lev c lo led (.Compare e1 [.Eq] [e2] pos) b := by
  obtain ⟨t, hb⟩ := bd_top c led
  rcases h with ⟨rfl, rfl⟩ | ⟨tag, rest, h3, h4, rfl⟩
  · exact Ts.cmp h1 h2 (Cmp.teq hb hb (.ss (beq_self_eq_true _) .nn)) hm
  · exact Ts.cmp h1 h2 (Cmp.teq (.led h3) hb (.ds h4)) hm
theorem len_snoc {α : Type} (l : List α) (x : α) : (l ++ [x]).length = l.length + 1 := List.length_append
theorem get_at {pre suf : List Value} {v : Value} {i : Int} (h : i = pre.length) : (pre ++ v :: suf)[i.toNat]? = some v := by
  subst h; rw [Int.toNat_natCast, List.getElem?_append_right (Nat.le_refl _), Nat.sub_self]; rfl
theorem above_H (wl : Addr) (va tl : List Value) (T : ALed) (hl : (va ++ .ref 190 :: tl).length ≤ 1000) (h : LastIs T va false) :
    HSpec 1 328 [.ref wl, .int (va.length + 1) 0] ((wl, .list (va ++ .ref 190 :: tl)) :: T) fun K => K (.int va.length 0) ((wl, .list (va ++ .ref 190 :: tl)) :: T) := by
  have hz : (va ++ Value.ref 190 :: tl).length < 2 ^ 62 := Nat.lt_of_le_of_lt hl (by decide)
  cases h with
  | @row pre q tag rest hm ht =>
    have e1 : ((pre ++ [Value.ref q]).length : Int) = pre.length + 1 := by rw [List.length_append]; rfl
    rw [e1]
    rw [List.append_assoc] at hl hz ⊢
    refine' HSpec.intro [sN "rows", sN "at"] [] ?ho ?hcd ?hb ?ml ?hn ?hco ?hgen ?hk ?hcell ?body
    walk_at "h_intro"
    case hb => exact arity2 fun _ _ => rfl
    case body =>
    intro c K hK
    refine' X.while (fun n lo led => led = (wl, .list (pre ++ ([.ref q] ++ .ref 190 :: tl))) :: T ∧ ((n = 1 ∧ lo = [(sN "rows", some (.ref wl)), (sN "at", some (.int (pre.length + 1 + 1) 0))]) ∨ (n = 0 ∧ lo = [(sN "rows", some (.ref wl)), (sN "at", some (.int (pre.length + 1) 0))]))) 1 ?h0 ?turn
    case h0 => exact ⟨rfl, .inl ⟨rfl, rfl⟩⟩
    rintro n lo led ⟨rfl, ⟨rfl, rfl⟩ | ⟨rfl, rfl⟩⟩
    · refine' .inr ⟨Ts.to (Ts.and (p := true) (q := true) (Ts.to (Ts.cmp ?a Ev.int Cmp.gt rfl) ?p) fun _ => Ts.to (Ts.and (p := true) (q := true) (ts_bd (b := true) (Ev.item ?e1 ?e2 ?e3 ?h0 hz ?v) (Ev.glob ?e ?f) rfl (.inl ⟨rfl, rfl⟩)) fun _ => Ts.andNil) rfl) rfl, ?k⟩
      case a => walk_at "h_ev"
      case p => exact decide_eq_true (by lia)
      case e1 => walk_at "h_ev"
      case e2 => walk_at "h_ev"
      case e3 => walk_at "h_mem"
      case h0 => lia
      case v => rw [← List.append_assoc]; exact get_at (by rw [e1]; lia)
      case e => k_is
      case f => decide +kernel
      case k =>
      walk_at "h_assign"
      case k =>
      exact X.nil ⟨0, Nat.zero_lt_one, rfl, .inr ⟨rfl, by rw [Int.add_sub_cancel]⟩⟩
    · refine' .inl ⟨Ts.to (Ts.and (p := true) (q := false) (Ts.to (Ts.cmp ?a2 Ev.int Cmp.gt rfl) ?p2) fun _ => Ts.to (Ts.and (p := false) (q := true) (ts_bd (b := false) (Ev.item ?e4 ?e5 ?e6 ?h02 hz ?v2) (Ev.glob ?e7 ?f2) rfl (.inr ⟨tag, rest, .tail _ hm, ht, rfl⟩)) fun _ => Ts.andNil) rfl) rfl, ?k2⟩
      case a2 => walk_at "h_ev"
      case p2 => exact decide_eq_true (by lia)
      case e4 => walk_at "h_ev"
      case e5 => walk_at "h_ev"
      case e6 => walk_at "h_mem"
      case h02 => lia
      case v2 => exact get_at (by lia)
      case e7 => k_is
      case f2 => decide +kernel
      case k2 =>
      refine' X.ret ?h ?S (hK)
      case h => walk_at "h_ev"
      case S => walk_at "h_split"
inductive LastNM (T : ALed) : List Value → Prop
  | nil : LastNM T []
  | row {pre q tag} : (∀ (c : Cx) (T' : ALed), (∀ p ∈ T, p ∈ T') → ∃ t rest, TupAt c T' q (.str tag t :: rest)) → (tag == sN "marker") = false → LastNM T (pre ++ [.ref q])
theorem RowsAt.nm {T : ALed} {vs : List Value} {rows : List RW} (h : RowsAt T vs rows) (hb : NoM rows) : LastNM T vs := by
  rcases hb with (rfl | ⟨pre, rfl⟩) | ⟨pre, k, rfl⟩
  · cases h; exact .nil
  · obtain ⟨a, v, rfl, -, h2⟩ := h.last
    cases h2
    exact .row (tag := sN "boundary") (fun c T' _ => (bd_top c T').imp fun _ h => ⟨_, h⟩) (by decide +kernel)
  · obtain ⟨a, v, rfl, -, h2⟩ := h.last
    cases h2 with
    | u h => exact .row (tag := sN "unmodified") (fun c T' hs => ⟨_, _, .led (hs _ h)⟩) (by decide +kernel)
theorem RowsAt.mk {T : ALed} : ∀ {vs : List Value} {xs : List (Addr × Int)}, RowsAt T vs (mkRows xs) → ∀ v ∈ vs, ∃ q p d, v = .ref q ∧ (q, mkTu p d) ∈ T
  | _, [], h, v, hv => by cases h; cases hv
  | _, _ :: _, .cons h1 h2, v, hv => by
    cases hv with
    | head => cases h1 with | m h => exact ⟨_, _, _, rfl, h⟩
    | tail _ hv => exact h2.mk v hv
theorem mahead_H (wl : Addr) (va vm tl : List Value) (T : ALed) (xs : List (Addr × Int)) (hl : (va ++ (vm ++ tl)).length ≤ 1000) (h : LastNM T va) (hm : RowsAt T vm (mkRows xs)) :
    HSpec 1 300 [.ref wl, .int (va.length + vm.length) 0] ((wl, .list (va ++ (vm ++ tl))) :: T) fun K => ∀ d, K (.ref d) ((d, .list vm.reverse) :: (wl, .list (va ++ (vm ++ tl))) :: T) := by
  have hz : (va ++ (vm ++ tl)).length < 2 ^ 62 := Nat.lt_of_le_of_lt hl (by decide)
  have hv := hm.mk
  rw [List.length_append, List.length_append] at hl
  refine' HSpec.intro [sN "rows", sN "at"] [sN "found"] ?ho ?hcd ?hb ?ml ?hn ?hco ?hgen ?hk ?hcell ?body
  walk_at "h_intro"
  case hb => exact arity2 fun _ _ => rfl
  case body =>
  intro c K hK
  refine' X.assignE rfl (Ex.list .nil rfl fun F0 => ⟨_, ?sl, ?k⟩)
  case sl => walk_at "h_setl"
  case k =>
  refine' X.while (fun n lo led => ∃ v1 v2, vm = v1 ++ v2 ∧ v1.length = n ∧ lo = [(sN "rows", some (.ref wl)), (sN "at", some (.int (va.length + n) 0)), (sN "found", some (.ref F0))] ∧ led = (F0, .list v2.reverse) :: (wl, .list (va ++ (vm ++ tl))) :: T) vm.length ?h0 ?turn
  case h0 => exact ⟨vm, [], (List.append_nil _).symm, rfl, rfl, rfl⟩
  rintro n lo led ⟨v1, v2, e1, rfl, rfl, rfl⟩
  rcases List.eq_nil_or_concat v1 with rfl | ⟨v1, v, rfl⟩
  · refine' .inl ⟨?t, ?k⟩
    case k =>
      rw [List.nil_append] at e1
      subst e1
      refine' X.ret ?h ?S (hK F0)
      case h => walk_at "h_ev"
      case S => walk_at "h_split"
    case t =>
      cases h with
      | nil =>
        refine' Ts.to (Ts.and (p := false) (q := false) (Ts.to (Ts.cmp ?a Ev.int Cmp.gt rfl) ?p) fun h => absurd h Bool.false_ne_true) rfl
        case a => walk_at "h_ev"
        case p => rfl
      | @row pre q tag hq ht =>
        obtain ⟨t, rest, hq⟩ := hq _ ((F0, .list v2.reverse) :: (wl, .list ((pre ++ [.ref q]) ++ (vm ++ tl))) :: T) fun p hp => .tail _ (.tail _ hp)
        refine' Ts.to (Ts.and (p := true) (q := false) (Ts.to (Ts.cmp ?a Ev.int Cmp.gt rfl) ?p) fun _ => Ts.to (Ts.and (p := false) (q := true) (Ts.cmp (Ev.titemA (n := 0) (Ev.item ?e1 ?e2 ?e3 ?h0 hz ?v) Ev.int hq rfl rfl) Ev.str (Cmp.eqs ht) rfl) fun _ => Ts.andNil) rfl) rfl
        case a => walk_at "h_ev"
        case p => exact decide_eq_true (by rw [len_snoc]; lia)
        case e1 => walk_at "h_ev"
        case e2 => walk_at "h_ev"
        case e3 => walk_at "h_mem"
        case h0 => rw [len_snoc]; lia
        case v => rw [List.append_assoc]; exact get_at (by rw [len_snoc]; show ((pre.length + 1 : Nat) : Int) + ((0 : Nat) : Int) - 1 = _; lia)
  · rw [List.concat_eq_append, List.append_assoc] at e1
    obtain ⟨q, p, d, rfl, hq⟩ := hv v (by rw [e1]; exact List.mem_append_right _ (.head _))
    rw [List.concat_eq_append]
    have e2 : ((va.length : Int) + (v1 ++ [Value.ref q]).length) = va.length + v1.length + 1 := by rw [len_snoc]; lia
    rw [e2]
    have ev : (va ++ (vm ++ tl))[(↑va.length + ↑v1.length + 1 - 1 : Int).toNat]? = some (.ref q) := by rw [e1, ← List.append_assoc, List.append_assoc va, List.append_assoc v1, ← List.append_assoc va]; exact get_at (by rw [List.length_append]; lia)
    have ev2 : (va ++ (vm ++ tl))[(↑va.length + ↑v1.length : Int).toNat]? = some (.ref q) := by rw [Int.add_sub_cancel] at ev; exact ev
    have p0 : (0 : Int) ≤ ↑va.length + ↑v1.length := by lia
    refine' .inr ⟨Ts.to (Ts.and (p := true) (q := true) (Ts.to (Ts.cmp ?ax Ev.int Cmp.gt rfl) ?px) fun _ => Ts.to (Ts.and (p := true) (q := true) (Ts.cmp (Ev.titem (n := 0) (vs := [.str (sN "marker") 0, .ref p, .int d 0]) (Ev.item ?e1x ?e2x ?e3x ?h0x hz ev) Ev.int ?mx rfl rfl) Ev.str (Cmp.eqs (beq_self_eq_true _)) rfl) fun _ => Ts.andNil) rfl) rfl, ?kx⟩
    case ax => walk_at "h_ev"
    case px => exact decide_eq_true (by lia)
    case e1x => walk_at "h_ev"
    case e2x => walk_at "h_ev"
    case e3x => walk_at "h_mem"
    case h0x => lia
    case mx => walk_at "h_mem"
    case kx =>
    walk_at "h_assign"
    case k =>
    rw [Int.add_sub_cancel]
    refine' X.expr rfl ?_
    walk_at "h_append"
    case hz => rw [List.length_reverse]; rw [e1, List.length_append] at hl; simp only [List.length_append] at hl; lia
    case k =>
    exact X.nil ⟨v1.length, by rw [len_snoc]; exact Nat.lt_succ_self _, v1, .ref q :: v2, e1, rfl, rfl, by rw [List.reverse_cons]⟩
end
section
open PySem PySem.W PySem.Calls PyProof.Rows PySem.Spec
set_option maxHeartbeats 1000000
theorem StIs.pt {c : CQ} {q : VQ} {T : ALed} {S : Sem} (h : StIs c q T S) (p : Int) : StIs c { q with pt := p } T S := ⟨h.tx, h.sz, h.ms, h.zv, h.nk, h.sv, h.nt, h.rows, h.asc, h.mz, h.r0, h.r1⟩
theorem undoins_S (c : CQ) (q : VQ) (T : ALed) (S : Sem) (qr : Addr) (a b' : Int) (h : StIs c q T S) (hq : (qr, inT a b') ∈ T) (h0 : c.bv ≤ a) (h1 : a < b') (h2 : b' ≤ S.zv) (hb : 1 ≤ c.bv) (he : S.zv ≤ S.tx.length + 1) (hl : S.rows.length ≤ 900) (ht : AtBd S.rows) :
    HSpec 7 307 [.ref c.b, .ref qr] (stL c q T) fun K => PutPost c T (delS a b' S) K := by
  have hd := delete_S c { q with pt := a } T S a b' (h.pt a) h0 h1 h2 hb he hl ht
  have hzz := h.zv
  obtain ⟨b, x, cl, mx, rd, ln, rc, u, room, bv⟩ := c
  obtain ⟨pt, zv, nk, ck, sv, A, G, B, ms, nt, rl, vs⟩ := q
  clear h
  dsimp only at *
  subst hzz
  refine' HSpec.intro [sN "buffer", sN "row"] [] ?ho ?hcd ?hb ?ml ?hn ?hco ?hgen ?hk ?hcell ?body
  walk_at "h_intro"
  case hb => exact arity2 fun _ _ => rfl
  case body =>
  intro c K hK
  refine' X.expr rfl ?_
  refine' Ex.call (needv_H b x mx ln _ pt bv _ nk ck sv a b' h0 h2) ?ha ?Sp ?hn ?hk ?hg ?hl ?hp
  walk_at "h_call"
  case hp =>
  (dsimp only [List.cons_append, List.nil_append])
  refine' X.expr rfl ?_
  refine' Ex.meth (goto_H b x mx ln _ pt bv _ nk ck sv a h0 (Int.le_trans (Int.le_of_lt h1) h2)) ?ho ?hm ?ha ?Sp ?hns ?hno ?h1 ?h2 ?h3 ?hk ?hl ?he ?hp
  walk_at "h_meth"
  case hp =>
  (dsimp only [List.cons_append, List.nil_append])
  refine' X.expr rfl ?_
  refine' Ex.call (hd) ?ha ?Sp ?hn ?hk ?hg ?hl ?hp
  walk_at "h_call"
  case hp =>
  intro d q' T' hT hq'
  (dsimp only [List.cons_append, List.nil_append])
  refine' X.finF ?S (hK q' T' hT hq')
  case S => walk_at "h_split"
end
section
open PySem PySem.W PySem.Calls PyProof.Rows PySem.Spec
set_option maxHeartbeats 1000000
local macro_rules | `(tactic| walk_at "h_cmp2") => `(tactic| ((refine' Cmp.inD ?dm ?dv); (case dm => walk_at "h_mem"); (case dv => assumption)))
noncomputable abbrev udLo (b qr ml V : Addr) (x y z : Option Value) : Lo := [(sN "buffer", some (.ref b)), (sN "row", some (.ref qr)), (sN "marker_rows", some (.ref ml)), (sN "valid", some (.ref V)), (sN "word", x), (sN "marker", y), (sN "distance", z)]
theorem asc_addAll (xs : List (Addr × Int)) : ∀ {ms : List MQ}, MsAsc ms → MsAsc (addAll xs ms) := by
  induction xs with
  | nil => exact fun h => h
  | cons x xs ih => exact fun h => ih (asc_addP h)
theorem len_addAll (xs : List (Addr × Int)) {n : Nat} : ∀ {ms : List MQ}, Nat.ble ms.length n = true → Nat.ble (addAll xs ms).length n = true := by
  induction xs with
  | nil => exact fun h => h
  | cons x xs ih => exact fun {ms} h => ih (ms := addP x.1 x.2 ms) (by unfold addP; rw [List.length_map]; exact h)
theorem st_nd {c : CQ} {q : VQ} {T : ALed} {p : Addr × AO} (h : ((p :: stL c q T).map (·.1)).Nodup) : (q.ms.map (·.p)).Nodup := by
  have e : (q.ms.map (mkA (.ref c.b))).map (·.1) = q.ms.map (·.p) := by rw [List.map_map]; rfl
  rw [← e]
  exact h.sublist (List.Sublist.map (·.1) (List.Sublist.cons _ (List.Sublist.cons _ (List.Sublist.cons _ (List.Sublist.cons _ (List.Sublist.cons _ (List.Sublist.cons _ (List.Sublist.cons _ (List.Sublist.cons _ (List.Sublist.cons _ (List.Sublist.cons _ (List.sublist_append_left (q.ms.map (mkA (.ref c.b))) T))))))))))))
inductive UdJ (b : Addr) (SL : ALed → ALed) (T : ALed) (S : Sem) (qr ml V : Addr) (st : Int) (xs : List (Addr × Int)) (r : List Value) (lo : Lo) (led : ALed) : Prop
  | mk (v1 v2 v3 : Option Value) (dn td : List (Addr × Int)) (N : ALed) (tv : List Value) (f0 : lo = udLo b qr ml V v1 v2 v3) (f1 : xs = dn ++ td) (f2 : RowsAt T r (mkRows td)) (f3 : (∀ x ∈ T, x ∈ N)) (f4 : TMs N tv (dn.filter fun x => atP st S.ms x.1)) (f5 : led = (V, .list tv) :: SL N)
theorem undel_S (c : CQ) (q : VQ) (T : ALed) (S : Sem) (qr pc cr rr ml : Addr) (st : Int) (fl : Bool) (cs : List Int) (mv : List Value) (xs : List (Addr × Int)) (h : StIs c q T S) (hq : (qr, deT st pc fl) ∈ T) (hpc : (pc, AO.inst 706 (pieF cr rr)) ∈ T) (hcr : (cr, AO.list (iv cs)) ∈ T) (hm : RowsAt T mv (mkRows xs)) (hxs : MsOk S xs)
    (h0 : c.bv ≤ st) (h1 : st ≤ S.zv) (hb : 1 ≤ c.bv) (he : S.zv ≤ S.tx.length + 1) (hn : cs ≠ []) (hl : S.rows.length ≤ 900) (hz : S.tx.length + cs.length ≤ 900) (hla : LastRw S.rows (imS S) S.nt S.sv) :
    HSpec 9 314 [.ref c.b, .ref qr, .ref ml] ((ml, .list mv) :: stL c q T) fun K => ∀ q' T', (∀ p ∈ T, p ∈ T') → StIs c q' T' (undelS st cs xs S) → K .none ((ml, .list mv) :: stL c q' T') := by
  have hp := fun N (hN : ∀ x ∈ T, x ∈ N) => piece_S c { q with pt := st } N S pc cr rr cs ((h.pt st).mon hN) (hN _ hpc) (hN _ hcr) h0 h1 hb he hn hl hz hla
  have hzz := h.zv
  have hms := h.ms
  have hasc := h.asc
  obtain ⟨hx1, hx2⟩ := hxs
  obtain ⟨b, x, cl, mx, rd, ln, rc, u, room, bv⟩ := c
  obtain ⟨pt, zv, nk, ck, sv, A, G, B, ms, nt, rl, vs⟩ := q
  clear h
  dsimp only at *
  subst hzz hms
  refine' HSpec.intro [sN "buffer", sN "row", sN "marker_rows"] [sN "valid", sN "word", sN "marker", sN "distance"] ?ho ?hcd ?hb ?ml ?hn ?hco ?hgen ?hk ?hcell ?body
  walk_at "h_intro"
  case hb => exact arity3 fun _ _ _ => rfl
  case body =>
  intro c K hK
  refine' X.nd fun hnd => ?_
  have hnd := st_nd (c := ⟨b, x, cl, mx, rd, ln, rc, u, room, bv⟩) (q := ⟨pt, S.zv, nk, ck, sv, A, G, B, S.ms, nt, rl, vs⟩) (T := T) (p := (ml, .list mv)) hnd
  dsimp only at hnd
  refine' X.expr rfl ?_
  refine' Ex.call (needv_H b x mx ln _ pt bv _ nk ck sv st st h0 h1) ?ha ?Sp ?hn ?hk ?hg ?hl ?hp
  walk_at "h_call"
  case hp =>
  (dsimp only [List.cons_append, List.nil_append])
  refine' X.assignE rfl (Ex.list .nil rfl fun V => ⟨_, ?sl, ?k⟩)
  case sl => walk_at "h_setl"
  case k =>
  refine' X.forL (UdJ b (stL ⟨b, x, cl, mx, rd, ln, rc, u, room, bv⟩ ⟨pt, S.zv, nk, ck, sv, A, G, B, S.ms, nt, rl, vs⟩) T S qr ml V st xs) (Ex.ev ?ev ⟨ml, mv, (V, .list []) :: stL ⟨b, x, cl, mx, rd, ln, rc, u, room, bv⟩ ⟨pt, S.zv, nk, ck, sv, A, G, B, S.ms, nt, rl, vs⟩ T, rfl, ?R, ⟨none, none, none, [], xs, T, [], rfl, rfl, hm, fun _ h => h, .nil, rfl⟩, ?done, ?turn⟩) (fun _ => rfl)
  case ev => walk_at "h_ev"
  case R => walk_at "h_rem"
  case turn =>
    rintro I it ob v r lo led ⟨v1, v2, v3, dn, td, N, tv, rfl, e1, hR, hTN, hT, rfl⟩
    cases td with
    | nil => cases hR
    | cons y td =>
      obtain ⟨p, d⟩ := y
      cases hR with
      | cons hy hR =>
        cases hy with
        | @m qm _ _ hqm =>
          have hqm := hTN _ hqm
          have hq := hTN _ hq
          obtain ⟨m, hmm, rfl⟩ := List.mem_map.mp (hx2 (p, d) (e1 ▸ List.mem_append_right _ (.head _)))
          have hle : tv.length ≤ 60 := hT.len ▸ Nat.le_trans (List.length_filter_le _ _) (by rw [e1, List.length_append] at hx1; lia : dn.length ≤ 60)
          have hat : atP st S.ms m.p = decide (m.y = st) := by
            obtain ⟨a', b', e⟩ := List.append_of_mem hmm
            rw [e] at hnd ⊢
            exact atP_at hnd
          have ho : mkA (.ref b) m ∈ S.ms.map (mkA (.ref b)) := List.mem_map_of_mem hmm
          have hv : (valueAt (kvM S.ms) m.i).isSome = true := by rw [kv_get hasc hmm]; rfl
          refine' ⟨_, Asg.tup (vs := [.str (sN "marker") 0, .ref m.p, .int d 0]) ?m ?s, ?k⟩
          case m => walk_at "h_mem"
          case s => walk_at "h_setts"
          case k =>
          refine' X.iteB (Ts.and (p := true) (q := decide (m.y = st) && true) (Ts.cmp ?t1 ?t2 (Cmp.inD ?t5 hv) rfl) fun _ => Ts.and (Ts.cmp ?t3 ?t4 Cmp.eq rfl) fun _ => Ts.andNil) ?y ?n
          case t1 => walk_at "h_ev"
          case t2 => walk_at "h_ev"
          case t3 => walk_at "h_ev"
          case t4 => walk_at "h_ev"
          case t5 => walk_at "h_mem"
          case y =>
            intro hy
            rw [Bool.true_and, Bool.and_true, ← hat] at hy
            refine' X.expr rfl ?_
            walk_at "h_appendE"
            case he =>
            refine' Ex.tup (vs := [.ref m.p, .int d 0]) ?ev ?z fun t => ⟨_, _, ?R, Nat.le_trans hle (by decide), ?k⟩
            case ev => walk_at "h_evs"
            case z => rfl
            case R => walk_at "h_rep"
            case k =>
            refine' X.nilT (X.tend ?S1 ?S2 ⟨_, _, _, dn ++ [(m.p, d)], td, (t, .tup [.ref m.p, .int d 0]) :: N, tv ++ [.ref t], rfl, ?e, hR, fun x hx => .tail _ (hTN x hx), ?h, rfl⟩)
            case S1 => walk_at "h_split"
            case S2 => walk_at "h_split"
            case e => rw [e1, List.append_assoc]; rfl
            case h => rw [List.filter_append, List.filter_cons, if_pos hy]; exact (hT.mono fun p hp => .tail _ hp).app (.cons (.head _) .nil)
          case n =>
            intro hy
            rw [Bool.true_and, Bool.and_true, ← hat] at hy
            refine' X.nilT (X.tend ?S3 ?S4 ⟨_, _, _, dn ++ [(m.p, d)], td, N, tv, rfl, ?e2, hR, hTN, ?h2, rfl⟩)
            case S3 => walk_at "h_split"
            case S4 => walk_at "h_split"
            case e2 => rw [e1, List.append_assoc]; rfl
            case h2 => rw [List.filter_append, List.filter_cons, if_neg (by rw [hy]; exact Bool.false_ne_true), List.filter_nil, List.append_nil]; exact hT
  case done =>
    rintro lo led ⟨v1, v2, v3, dn, td, N, tv, rfl, e1, hR, hTN, hT, rfl⟩
    have e2 : td = [] := by cases td with | nil => rfl | cons y td => cases hR
    subst e2
    rw [List.append_nil] at e1
    subst e1
    have hp := hp N hTN
    have hq := hTN _ hq
    clear hm hpc hcr
    refine' X.expr rfl ?_
    refine' Ex.meth (goto_H b x mx ln _ pt bv _ nk ck sv st h0 h1) ?ho ?hm ?ha ?Sp ?hns ?hno ?h1 ?h2 ?h3 ?hk ?hl ?he ?hp
    walk_at "h_meth"
    case hp =>
    (dsimp only [List.cons_append, List.nil_append])
    refine' X.expr rfl ?_
    refine' Ex.call (hp) ?ha ?Sp ?hn ?hk ?hg ?hl ?hp
    walk_at "h_call"
    case hp =>
    intro q' T' hT2 hq'
    have hq := hT2 _ hq
    have hT3 : ∀ p ∈ T, p ∈ T' := fun p hp => hT2 p (hTN p hp)
    have hT4 := hT.mono hT2
    have hnd' : (q'.ms.map (·.p)).Nodup := by rw [hq'.ms]; show ((S.ms.map (adjM _)).map (·.p)).Nodup; rw [adj_p]; exact hnd
    have hpm : q'.ms.map (·.p) = S.ms.map (·.p) := by rw [hq'.ms]; exact adj_p _ _
    have hzv' : st ≤ q'.zv := by rw [hq'.zv]; show st ≤ S.zv + cs.length; lia
    obtain ⟨htx, hsz, hms, hzv, hnk, hsv, hnt, hR', ha, hmz, r0, r1⟩ := hq'
    obtain ⟨pt', zv', nk', ck', sv', A', G', B', ms', nt', rl', vs'⟩ := q'
    clear hp hT2 hT hTN hla
    dsimp only at *
    refine' X.drop (led1 := (V, .list tv) :: (ml, .list mv) :: stL ⟨b, x, cl, mx, rd, ln, rc, u, room, bv⟩ ⟨pt', zv', nk', ck', sv', A', G', B', ms', nt', rl', vs'⟩ T') ?S1 ?k1
    case S1 => (simp only [List.cons_append, List.append_assoc (List.map (mkA _) _)]); walk_at "h_split"
    case k1 =>
    refine' X.iteK (fun led => ∃ pt, led = (V, .list tv) :: (ml, .list mv) :: stL ⟨b, x, cl, mx, rd, ln, rc, u, room, bv⟩ ⟨pt, zv', nk', ck', sv', A', G', B', ms', nt', rl', vs'⟩ T') (Ts.not (Ts.val ?t rfl)) ?y ?n ?kk
    case t => walk_at "h_ev"
    case n => exact fun _ => X.nil ⟨rfl, _, rfl⟩
    case y =>
      intro _
      refine' X.expr rfl ?_
      refine' Ex.meth (goto_H b x mx ln _ pt' bv _ nk' ck' sv' st h0 hzv') ?ho ?hm ?ha ?Sp ?hns ?hno ?h1 ?h2 ?h3 ?hk ?hl ?he ?hp
      walk_at "h_meth"
      case hp =>
      refine' X.drop (led1 := (V, .list tv) :: (ml, .list mv) :: stL ⟨b, x, cl, mx, rd, ln, rc, u, room, bv⟩ ⟨st, zv', nk', ck', sv', A', G', B', ms', nt', rl', vs'⟩ T') ?S2 ?k2
      case S2 => (simp only [List.cons_append, List.nil_append]); walk_at "h_split"
      case k2 => exact X.nil ⟨rfl, _, rfl⟩
    case kk =>
    rintro led ⟨pt3, rfl⟩
    refine' X.forL (fun r lo led => ∃ v2 v3 dn td ms2, lo = udLo b qr ml V v1 v2 v3 ∧ xs.filter (fun x => atP st S.ms x.1) = dn ++ td ∧ TMs T' r td ∧ ms2 = addAll dn ms' ∧ led = (ml, .list mv) :: stL ⟨b, x, cl, mx, rd, ln, rc, u, room, bv⟩ ⟨pt3, zv', nk', ck', sv', A', G', B', ms2, nt', rl', vs'⟩ T') (Ex.ev ?ev2 ⟨V, tv, (ml, .list mv) :: stL ⟨b, x, cl, mx, rd, ln, rc, u, room, bv⟩ ⟨pt3, zv', nk', ck', sv', A', G', B', ms', nt', rl', vs'⟩ T', rfl, ?R2, ⟨_, _, [], _, ms', rfl, rfl, hT4, rfl, rfl⟩, ?done2, ?turn2⟩) (fun _ => rfl)
    case ev2 => walk_at "h_ev"
    case R2 => walk_at "h_rem"
    case done2 =>
      rintro lo led ⟨v2, v3, dn, td, ms2, rfl, e3, hT5, rfl, rfl⟩
      have e4 : td = [] := by cases td with | nil => rfl | cons y td => cases hT5
      subst e4
      rw [List.append_nil] at e3
      subst e3
      refine' X.finF ?S (hK ⟨pt3, zv', nk', ck', sv', A', G', B', addAll (xs.filter fun x => atP st S.ms x.1) ms', nt', rl', vs'⟩ T' hT3 ⟨htx, hsz, congrArg (addAll _) hms, hzv, hnk, hsv, hnt, hR', asc_addAll _ ha, len_addAll _ hmz, r0, r1⟩)
      case S => walk_at "h_split"
    case turn2 =>
      rintro I it ob v r lo led ⟨v2, v3, dn, td, ms2, rfl, e3, hT5, e5, rfl⟩
      cases hT5 with
      | @cons qm p d _ td hqm hT5 =>
        have hp2 : ms2.map (·.p) = S.ms.map (·.p) := by rw [e5, addAll_p]; exact hpm
        obtain ⟨m, hmm, rfl⟩ := List.mem_map.mp (show p ∈ ms2.map (·.p) by
          rw [hp2]; exact hx2 (p, d) (List.mem_filter.mp (e3 ▸ List.mem_append_right _ (.head _) : (p, d) ∈ xs.filter fun x => atP st S.ms x.1)).1)
        have hnd2 : (ms2.map (·.p)).Nodup := hp2 ▸ hnd
        obtain ⟨a', b', rfl⟩ := List.append_of_mem hmm
        have e6 := addP_at (d := d) hnd2
        have e7 : addAll (dn ++ [(m.p, d)]) ms' = a' ++ { m with y := m.y - d } :: b' := by rw [addAll_snoc, ← e5]; exact e6
        have e8 := kv_addP m.p d (a' ++ m :: b')
        rw [e6] at e8
        rw [stL, List.map_append, List.map_cons, List.append_assoc (a'.map _), List.cons_append, ← e8]
        dsimp only
        refine' ⟨_, Asg.tup (vs := [.ref m.p, .int d 0]) ?m3 ?s3, ?k3⟩
        case m3 => walk_at "h_mem"
        case s3 => walk_at "h_setts"
        case k3 =>
        walk_at "h_setattr"
        case k =>
        refine' X.tend ?S5 ?S6 ⟨_, _, dn ++ [(m.p, d)], td, a' ++ { m with y := m.y - d } :: b', rfl, ?e9, hT5, e7.symm, ?e10⟩
        case S5 => walk_at "h_split"
        case S6 => exact Split.last RemL.all
        case e9 => rw [e3, List.append_assoc]; rfl
        case e10 => rw [stL, List.map_append, List.map_cons, List.append_assoc (a'.map _), List.cons_append]
end
section
open PySem PySem.W PySem.Calls PyProof.Rows PySem.Spec
set_option maxHeartbeats 1000000
theorem RowsAt.rev {T : ALed} {vs : List Value} {xs : List RW} (h : RowsAt T vs xs) : RowsAt T vs.reverse xs.reverse := by
  induction h with
  | nil => exact .nil
  | cons h _ ih => rw [List.reverse_cons, List.reverse_cons]; exact ih.app (.cons h .nil)
local macro_rules | `(tactic| walk_at "h_ev2") => `(tactic| ((with_reducible refine' Ev.item ?a ?b ?m ?h0 ?z ?v); (case a => walk_at "h_ev"); (case b => walk_at "h_ev"); (case m => walk_at "h_mem"); (case h0 => assumption); (case z => assumption); (case v => assumption)))
noncomputable abbrev rowP (g : CQ) (T : ALed) (wl : Addr) (wvs : List Value) (n : Int) (S : Sem) (K : Value → ALed → Prop) : Prop := ∀ q' T', (∀ p ∈ T, p ∈ T') → StIs g q' T' S → K (.int n 0) ((wl, .list wvs) :: stL g q' T')
theorem row_ins_S (g : CQ) (q : VQ) (T : ALed) (S : Sem) (wl qr : Addr) (vp tl : List Value) (a b' : Int) (h : StIs g q T S) (hq : (qr, inT a b') ∈ T) (hw : (vp ++ .ref qr :: tl).length ≤ 1000) (h0 : g.bv ≤ a) (h1 : a < b') (h2 : b' ≤ S.zv) (hb : 1 ≤ g.bv) (he : S.zv ≤ S.tx.length + 1) (hl : S.rows.length ≤ 900) (ht : AtBd S.rows) :
    HSpec 10 321 [.ref g.b, .ref wl, .int (vp.length + 1) 0] ((wl, .list (vp ++ .ref qr :: tl)) :: stL g q T) fun K => rowP g T wl (vp ++ .ref qr :: tl) vp.length (delS a b' S) K := by
  have hu := undoins_S g q T S qr a b' h hq h0 h1 h2 hb he hl ht
  have hz : (vp ++ .ref qr :: tl).length < 2 ^ 62 := Nat.lt_of_le_of_lt hw (by decide)
  have i0 : (0 : Int) ≤ (vp.length : Int) + 1 - 1 := by lia
  have iv : (vp ++ .ref qr :: tl)[((vp.length : Int) + 1 - 1).toNat]? = some (.ref qr) := get_at (Int.add_sub_cancel _ _)
  clear h
  refine' HSpec.intro [sN "buffer", sN "rows", sN "at"] [sN "row", sN "marker_rows"] ?ho ?hcd ?hb ?ml ?hn ?hco ?hgen ?hk ?hcell ?body
  walk_at "h_intro"
  case hb => exact arity3 fun _ _ _ => rfl
  case body =>
  intro c K hK
  walk_at "h_assign"
  case k =>
  walk_at "h_assign"
  case k =>
  rw [Int.add_sub_cancel]
  refine' X.iteT (Ts.to ?xt1 ?xe1) ?xk1
  case xt1 => walk_at "h_ts"
  case xe1 => exact rfl
  case xk1 =>
  refine' X.expr rfl ?_
  refine' Ex.call (hu) ?ha ?Sp ?hn ?hk ?hg ?hl ?hp
  walk_at "h_call"
  case hp =>
  intro q' T' hT hq'
  refine' X.drop (led1 := (wl, .list (vp ++ .ref qr :: tl)) :: stL g q' T') ?S1 ?k1
  case S1 => (simp only [List.cons_append, List.append_assoc (List.map (mkA _) _)]); walk_at "h_split"
  case k1 =>
  refine' X.nilT ?_
  refine' X.ret ?h ?S (hK q' T' hT hq')
  case h => walk_at "h_ev"
  case S => walk_at "h_split"
theorem row_del_S (g : CQ) (q : VQ) (T : ALed) (S : Sem) (wl qr pc cr rr : Addr) (fl : Bool) (st : Int) (cs : List Int) (xs : List (Addr × Int)) (vp vm tl : List Value) (h : StIs g q T S) (hq : (qr, deT st pc fl) ∈ T) (hpc : (pc, AO.inst 706 (pieF cr rr)) ∈ T) (hcr : (cr, AO.list (iv cs)) ∈ T) (hp : LastNM T vp) (hm : RowsAt T vm (mkRows xs)) (hxs : MsOk S xs) (hw : (vp ++ (vm ++ .ref qr :: tl)).length ≤ 1000) (h0 : g.bv ≤ st) (h1 : st ≤ S.zv) (hb : 1 ≤ g.bv) (he : S.zv ≤ S.tx.length + 1) (hn : cs ≠ []) (hl : S.rows.length ≤ 900) (hz : S.tx.length + cs.length ≤ 900) (hla : LastRw S.rows (imS S) S.nt S.sv) :
    HSpec 10 321 [.ref g.b, .ref wl, .int (vp.length + vm.length + 1) 0] ((wl, .list (vp ++ (vm ++ .ref qr :: tl))) :: stL g q T) fun K => rowP g T wl (vp ++ (vm ++ .ref qr :: tl)) vp.length (undelS st cs xs.reverse S) K := by
  have hu := fun ml => undel_S g q T S qr pc cr rr ml st fl cs vm.reverse xs.reverse h hq hpc hcr (by rw [mkRows, List.map_reverse]; exact hm.rev) ⟨by rw [List.length_reverse]; exact hxs.1, fun x hx => hxs.2 x (List.mem_reverse.mp hx)⟩ h0 h1 hb he hn hl hz hla
  have hma := mahead_H wl vp vm (.ref qr :: tl) T xs hw hp hm
  have hz : (vp ++ (vm ++ .ref qr :: tl)).length < 2 ^ 62 := Nat.lt_of_le_of_lt hw (by decide)
  have i0 : (0 : Int) ≤ (vp.length : Int) + vm.length + 1 - 1 := by lia
  have iv : (vp ++ (vm ++ .ref qr :: tl))[((vp.length : Int) + vm.length + 1 - 1).toNat]? = some (.ref qr) := by rw [← List.append_assoc]; exact get_at (by rw [List.length_append]; lia)
  have hvl : vm.reverse.length ≤ 1000 := by rw [List.length_reverse]; simp only [List.length_append] at hw; lia
  have e9 : (vp.length : Int) + vm.length - vm.reverse.length = vp.length := by rw [List.length_reverse, Int.add_sub_cancel]
  clear h hm hxs hp
  refine' HSpec.intro [sN "buffer", sN "rows", sN "at"] [sN "row", sN "marker_rows"] ?ho ?hcd ?hb ?ml ?hn ?hco ?hgen ?hk ?hcell ?body
  walk_at "h_intro"
  case hb => exact arity3 fun _ _ _ => rfl
  case body =>
  intro c K hK
  walk_at "h_assign"
  case k =>
  walk_at "h_assign"
  case k =>
  rw [Int.add_sub_cancel]
  refine' X.iteF (Ts.to ?xt2 ?xe2) ?xk2
  case xt2 => walk_at "h_ts"
  case xe2 => exact rfl
  case xk2 =>
  refine' X.iteT (Ts.to ?xt3 ?xe3) ?xk3
  case xt3 => walk_at "h_ts"
  case xe3 => exact rfl
  case xk3 =>
  refine' X.assignE rfl ?_
  refine' Ex.call (hma) ?ha ?Sp ?hn ?hk ?hg ?hl ?hp
  walk_at "h_call"
  case hp =>
  intro ml
  (dsimp only [List.cons_append, List.nil_append])
  refine' ⟨_, ?sl4, ?k4⟩
  case sl4 => walk_at "h_setl"
  case k4 =>
  refine' X.expr rfl ?_
  refine' Ex.call (hu ml) ?ha ?Sp ?hn ?hk ?hg ?hl ?hp
  walk_at "h_call"
  case hp =>
  intro q' T' hT hq'
  refine' X.drop (led1 := (ml, .list vm.reverse) :: (wl, .list (vp ++ (vm ++ .ref qr :: tl))) :: stL g q' T') ?S1 ?k1
  case S1 => (simp only [List.cons_append, List.append_assoc (List.map (mkA _) _)]); walk_at "h_split"
  case k1 =>
  walk_at "h_assign"
  case k =>
  rw [e9]
  refine' X.nilT (X.nilT ?_)
  refine' X.ret ?h ?S (hK q' T' hT hq')
  case h => walk_at "h_ev"
  case S => walk_at "h_split"
theorem row_unm_S (g : CQ) (q : VQ) (T : ALed) (S : Sem) (wl qr : Addr) (vp tl : List Value) (h : StIs g q T S) (hq : (qr, unT S.sv) ∈ T) (hw : (vp ++ .ref qr :: tl).length ≤ 1000) (hl : S.rows.length ≤ 900) :
    HSpec 10 321 [.ref g.b, .ref wl, .int (vp.length + 1) 0] ((wl, .list (vp ++ .ref qr :: tl)) :: stL g q T) fun K => rowP g T wl (vp ++ .ref qr :: tl) vp.length (renS S) K := by
  have hz : (vp ++ .ref qr :: tl).length < 2 ^ 62 := Nat.lt_of_le_of_lt hw (by decide)
  have i0 : (0 : Int) ≤ (vp.length : Int) + 1 - 1 := by lia
  have iv : (vp ++ .ref qr :: tl)[((vp.length : Int) + 1 - 1).toNat]? = some (.ref qr) := get_at (Int.add_sub_cancel _ _)
  obtain ⟨htx, hsz, hms, hzv, hnk, hsv, hnt, hR, ha, hmz, r0, r1⟩ := h
  obtain ⟨b, x, cl, mx, rd, ln, rc, u, room, bv⟩ := g
  obtain ⟨pt, zv, nk, ck, sv, A, G, B, ms, nt, rl, vs⟩ := q
  have hvl : vs.length ≤ 1000 := by rw [hR.len]; lia
  dsimp only at *
  subst hsv hnk hnt
  refine' HSpec.intro [sN "buffer", sN "rows", sN "at"] [sN "row", sN "marker_rows"] ?ho ?hcd ?hb ?ml ?hn ?hco ?hgen ?hk ?hcell ?body
  walk_at "h_intro"
  case hb => exact arity3 fun _ _ _ => rfl
  case body =>
  intro c K hK
  walk_at "h_assign"
  case k =>
  walk_at "h_assign"
  case k =>
  rw [Int.add_sub_cancel]
  refine' X.iteF (Ts.to ?xt5 ?xe5) ?xk5
  case xt5 => walk_at "h_ts"
  case xe5 => exact rfl
  case xk5 =>
  refine' X.iteF (Ts.to ?xt6 ?xe6) ?xk6
  case xt6 => walk_at "h_ts"
  case xe6 => exact rfl
  case xk6 =>
  refine' X.iteF (Ts.to ?xt7 ?xe7) ?xk7
  case xt7 => walk_at "h_ts"
  case xe7 => exact rfl
  case xk7 =>
  refine' X.iteF (Ts.to ?xt8 ?xe8) ?xk8
  case xt8 => walk_at "h_ts"
  case xe8 => exact rfl
  case xk8 =>
  refine' X.iteT (Ts.to ?xt9 ?xe9) ?xk9
  case xt9 => walk_at "h_ts"
  case xe9 => exact (by rw [decide_eq_true rfl]; rfl)
  case xk9 =>
  refine' X.expr rfl ?_
  refine' Ex.meth (setmod_H b x mx ln (.ref rc) pt bv zv S.nk ck S.sv) ?ho ?hm ?ha ?Sp ?hns ?hno ?h1 ?h2 ?h3 ?hk ?hl ?he ?hp
  walk_at "h_meth"
  case hp =>
  (dsimp only [List.cons_append, List.nil_append])
  refine' X.iteT (Ts.to ?xt10 ?xe10) ?xk10
  case xt10 => walk_at "h_ts"
  case xe10 => exact rfl
  case xk10 =>
  refine' X.expr rfl ?_
  refine' Ex.meth (renew_H u rl S.nt vs S.rows T S.sv S.nk hvl hR) ?ho ?hm (Evs.cons rfl (Ev.t1 ?w1 ?w2) (Evs.cons rfl ?w3 .nil)) ?Sp ?hns ?hno ?h1 ?h2 ?h3 ?hk ?hl ?he ?hp
  case ho => walk_at "h_ev"
  case hm => walk_at "h_mem"
  case w1 => walk_at "h_ev"
  case w2 => walk_at "h_mem"
  case w3 => walk_at "h_ev"
  case Sp => walk_at "h_split"
  case hns => rfl
  case hno => decide +kernel
  case h1 => k_is
  case h2 => k_is
  case h3 => k_is
  case hk => k_is
  case hl => rfl
  case he => exact fun _ => rfl
  case hp =>
  intro x' N vs' hN hR'
  (simp only [List.cons_append, List.nil_append])
  refine' X.nilT (X.nilT (X.nilT (X.nilT (X.nilT (X.nilT ?_)))))
  refine' X.ret ?h ?S (hK ⟨pt, zv, S.nk, ck, S.nk, A, G, B, ms, S.nt, x', vs'⟩ N hN ⟨htx, hsz, hms, hzv, rfl, rfl, rfl, hR', ha, hmz, r0, r1⟩)
  case h => walk_at "h_ev"
  case S => walk_at "h_split"
end
section
open PySem PySem.W PySem.Calls PyProof.Rows PySem.Spec
set_option maxHeartbeats 1000000
theorem StepU.len {bv : Int} {rows rows' : List RW} {S S' : Sem} (h : StepU bv rows S rows' S') : ∃ t, rows = rows' ++ t ∧ t ≠ [] := by
  cases h with
  | ins => exact ⟨_, rfl, List.cons_ne_nil _ _⟩
  | del => exact ⟨_, rfl, List.append_ne_nil_of_right_ne_nil _ (List.cons_ne_nil _ _)⟩
  | unm => exact ⟨_, rfl, List.cons_ne_nil _ _⟩
theorem undorow_S (g : CQ) (q : VQ) (T : ALed) (S S' : Sem) (wl : Addr) (va tl : List Value) (rows rows' : List RW) (h : StIs g q T S) (hR : RowsAt T va rows) (hu : StepU g.bv rows S rows' S') (hb : 1 ≤ g.bv) (hw : (va ++ tl).length ≤ 1000) :
    HSpec 10 321 [.ref g.b, .ref wl, .int va.length 0] ((wl, .list (va ++ tl)) :: stL g q T) fun K => rowP g T wl (va ++ tl) rows'.length S' K := by
  cases hu with
  | @ins pre a b' _ h0 h1 h2 h3 h4 =>
    obtain ⟨vp, v, rfl, g1, g2⟩ := hR.last
    cases g2 with
    | @i qr _ _ hq =>
      rw [len_snoc, ← g1.len]
      rw [List.append_assoc] at hw ⊢
      exact row_ins_S g q T S wl qr vp tl a b' h hq hw h0 h1 h2 hb h3.1 (by have := h3.2.2; lia) h4
  | @del pre xs st cs _ h0 h1 h2 h3 h4 h5 h6 h7 =>
    obtain ⟨vp, vb, rfl, g1, g2⟩ := hR.split
    obtain ⟨vm, v, rfl, g3, g4⟩ := g2.last
    cases g4 with
    | @d qr _ pc fl cr rr _ hq hpc hcr hrr =>
      have e : ((vp ++ (vm ++ [Value.ref qr])).length : Int) = vp.length + vm.length + 1 := by rw [List.length_append, len_snoc]; lia
      rw [e, ← g1.len]
      rw [List.append_assoc, List.append_assoc] at hw ⊢
      exact row_del_S g q T S wl qr pc cr rr fl st cs xs vp vm tl h hq hpc hcr (g1.nm h0) g3 h1 hw h4 h5 hb h6.1 h2 (by have := h6.2.2; lia) (by have := h6.2.1; lia) h7
  | @unm pre _ h0 =>
    obtain ⟨vp, v, rfl, g1, g2⟩ := hR.last
    cases g2 with
    | @u qr _ hq =>
      rw [len_snoc, ← g1.len]
      rw [List.append_assoc] at hw ⊢
      exact row_unm_S g q T S wl qr vp tl h hq hw (by lia)
theorem ts_nb {F : Fn} {lev : Nat} {c : Cx} {lo : Lo} {led : ALed} {e1 e2 : Expr} {pos : Pos} {q : Addr} {b : Bool} (h1 : Ev F lev c lo led e1 (.ref q)) (h2 : Ev F lev c lo led e2 (.ref 190)) (hm : behindInMarks .NotEq e2 = false) (h : (q = 190 ∧ b = true) ∨ (∃ tag rest, (q, AO.tup (.str tag 0 :: rest)) ∈ led ∧ (tag == sN "boundary") = false ∧ b = false)) : Ts F lev c lo led (.Compare e1 [.NotEq] [e2] pos) (!b) := by
  obtain ⟨t, hb⟩ := bd_top c led
  rcases h with ⟨rfl, rfl⟩ | ⟨tag, rest, h3, h4, rfl⟩
  · exact Ts.cmp h1 h2 (Cmp.tne hb hb (.ss (beq_self_eq_true _) .nn)) hm
  · exact Ts.cmp h1 h2 (Cmp.tne (.led h3) hb (.ds h4)) hm
theorem mem_stL {c : CQ} {q : VQ} {T : ALed} {p : Addr × AO} (h : p ∈ T) : p ∈ stL c q T := .tail _ (.tail _ (.tail _ (.tail _ (.tail _ (.tail _ (.tail _ (.tail _ (.tail _ (List.mem_append_right _ h)))))))))
theorem last_q {T : ALed} {va : List Value} {b : Bool} (h : LastIs T va b) : (va = [] ∧ b = true) ∨ ∃ pre q, va = pre ++ [.ref q] ∧ ((q = 190 ∧ b = true) ∨ (∃ tag rest, (q, AO.tup (.str tag 0 :: rest)) ∈ T ∧ (tag == sN "boundary") = false ∧ b = false)) := by
  cases h with
  | nil => exact .inl ⟨rfl, rfl⟩
  | @b pre => exact .inr ⟨pre, _, rfl, .inl ⟨rfl, rfl⟩⟩
  | @row pre q tag rest h1 h2 => exact .inr ⟨pre, _, rfl, .inr ⟨_, _, h1, h2, rfl⟩⟩
inductive GrJ (g : CQ) (T : ALed) (S' : Sem) (rows' : List RW) (wl : Addr) (wvs : List Value) (n : Nat) (lo : Lo) (led : ALed) : Prop
  | mk (rows1 : List RW) (S1 : Sem) (q1 : VQ) (T1 : ALed) (va1 tl1 : List Value) (f0 : n = rows1.length) (f1 : StepsU g.bv rows1 S1 rows' S') (f2 : StIs g q1 T1 S1) (f3 : (∀ p ∈ T, p ∈ T1)) (f4 : wvs = va1 ++ tl1) (f5 : RowsAt T1 va1 rows1) (f6 : lo = [(sN "buffer", some (.ref g.b)), (sN "rows", some (.ref wl)), (sN "at", some (.int va1.length 0))]) (f7 : led = (wl, .list wvs) :: stL g q1 T1)
theorem group_S (g : CQ) (q : VQ) (T : ALed) (S S' : Sem) (wl : Addr) (va tl : List Value) (rows rows' : List RW) (h : StIs g q T S) (hR : RowsAt T va rows) (hu : GroupU g.bv rows S rows' S') (hb : 1 ≤ g.bv) (hw : (va ++ tl).length ≤ 1000) :
    HSpec 11 335 [.ref g.b, .ref wl, .int va.length 0] ((wl, .list (va ++ tl)) :: stL g q T) fun K => rowP g T wl (va ++ tl) rows'.length S' K := by
  obtain ⟨pre, rfl, hnb, hs⟩ := hu
  obtain ⟨vp, v, rfl, g1, g2⟩ := hR.last
  cases g2
  rw [len_snoc, List.append_assoc, show ((vp.length + 1 : Nat) : Int) = vp.length + 1 from rfl]
  rw [List.append_assoc] at hw
  have hab := above_H wl vp tl T hw (g1.nbd hnb)
  have hz : (vp ++ ([Value.ref 190] ++ tl)).length < 2 ^ 62 := Nat.lt_of_le_of_lt hw (by decide)
  generalize hwv : vp ++ ([Value.ref 190] ++ tl) = wvs at *
  have hwv' : wvs = vp ++ (Value.ref 190 :: tl) := hwv.symm
  rw [← hwv'] at hab
  clear hR hwv
  refine' HSpec.intro [sN "buffer", sN "rows", sN "at"] [] ?ho ?hcd ?hb ?ml ?hn ?hco ?hgen ?hk ?hcell ?body
  walk_at "h_intro"
  case hb => exact arity3 fun _ _ _ => rfl
  case body =>
  intro c K hK
  refine' X.assignE rfl ?_
  refine' Ex.call (hab) ?ha ?Sp ?hn ?hk ?hg ?hl ?hp
  walk_at "h_call"
  case hp =>
  (dsimp only [List.cons_append, List.nil_append])
  refine' ⟨_, ?sl1, ?k1⟩
  case sl1 => walk_at "h_setl"
  case k1 =>
  refine' X.drop (led1 := (wl, .list wvs) :: stL g q T) ?S1 ?k1
  case S1 => walk_at "h_split"
  case k1 =>
  refine' X.while (GrJ g T S' rows' wl wvs) pre.length ?h0 ?turn
  case h0 => exact ⟨pre, S, q, T, vp, _, rfl, hs, h, fun _ h => h, hwv', g1, rfl, rfl⟩
  rintro n lo led ⟨rows1, S1, q1, T1, va1, tl1, rfl, hs1, hi, hT, rfl, hR1, rfl, rfl⟩
  cases hs1 with
  | done hd =>
    refine' .inl ⟨?t, ?k⟩
    case k =>
      rw [show (va1.length : Int) = rows'.length by rw [hR1.len]]
      refine' X.ret ?h ?S (hK q1 T1 hT hi)
      case h => walk_at "h_ev"
      case S => walk_at "h_split"
    case t =>
      rcases last_q (hR1.bd hd) with ⟨rfl, -⟩ | ⟨pre, qb, rfl, hq⟩
      · refine' Ts.to (Ts.and (p := false) (q := false) (Ts.to (Ts.cmp ?a0 Ev.int Cmp.gt rfl) ?p0) fun h => absurd h Bool.false_ne_true) rfl
        case a0 => walk_at "h_ev"
        case p0 => rfl
      · rw [List.append_assoc] at hz
        refine' Ts.to (Ts.and (p := true) (q := false) (Ts.to (Ts.cmp ?a Ev.int Cmp.gt rfl) ?p) fun _ => Ts.to (Ts.and (p := false) (q := true) (ts_nb (q := qb) (b := true) (Ev.item ?e1 ?e2 ?e3 ?h0 hz ?v) (Ev.glob ?e ?f) rfl ?w) fun _ => Ts.andNil) rfl) rfl
        case a => walk_at "h_ev"
        case p => exact decide_eq_true (by rw [len_snoc]; lia)
        case e1 => walk_at "h_ev"
        case e2 => walk_at "h_ev"
        case e3 => rw [List.append_assoc]; walk_at "h_mem"
        case h0 => rw [len_snoc]; lia
        case v => exact get_at (by rw [len_snoc]; lia)
        case e => k_is
        case f => decide +kernel
        case w => exact hq.imp id fun ⟨_, _, _, _, h⟩ => absurd h.symm Bool.false_ne_true
  | step hd hs2 hs3 =>
    obtain ⟨t, et, htn⟩ := hs2.len
    have hlt : ∀ n : Nat, n = _ → n < rows1.length := fun n e => by rw [e, et, List.length_append]; exact Nat.lt_add_of_pos_right (List.length_pos_iff.mpr htn)
    have hur := undorow_S g q1 T1 S1 _ wl va1 tl1 rows1 _ hi hR1 hs2 hb hw
    obtain ⟨va2, vt, rfl, hR2, -⟩ := (et ▸ hR1).split
    rcases last_q (hR1.nbd hd) with ⟨-, e⟩ | ⟨pre, qb, e, hq⟩
    · cases e
    · refine' .inr ⟨?t2, ?k2⟩
      case k2 =>
        refine' X.assignE rfl ?_
        refine' Ex.call (hur) ?ha ?Sp ?hn ?hk ?hg ?hl ?hp
        walk_at "h_call"
        case hp =>
        intro q2 T2 hT2 hi2
        (simp only [List.append_nil])
        refine' ⟨_, ?sl2, ?k2⟩
        case sl2 => walk_at "h_setl"
        case k2 =>
        exact X.nil ⟨_, hlt _ rfl, _, _, q2, T2, va2, vt ++ tl1, rfl, hs3, hi2, fun p hp => hT2 p (hT p hp), List.append_assoc _ _ _, hR2.mono hT2, by rw [hR2.len], rfl⟩
      case t2 =>
        rw [e] at hz ⊢
        rw [List.append_assoc] at hz
        refine' Ts.to (Ts.and (p := true) (q := true) (Ts.to (Ts.cmp ?a2 Ev.int Cmp.gt rfl) ?p2) fun _ => Ts.to (Ts.and (p := true) (q := true) (ts_nb (q := qb) (b := false) (Ev.item ?e4 ?e5 ?e6 ?h02 hz ?v2) (Ev.glob ?e7 ?f2) rfl ?w2) fun _ => Ts.andNil) rfl) rfl
        case a2 => walk_at "h_ev"
        case p2 => exact decide_eq_true (by rw [len_snoc]; lia)
        case e4 => walk_at "h_ev"
        case e5 => walk_at "h_ev"
        case e6 => rw [List.append_assoc]; walk_at "h_mem"
        case h02 => rw [len_snoc]; lia
        case v2 => exact get_at (by rw [len_snoc]; lia)
        case e7 => k_is
        case f2 => decide +kernel
        case w2 => exact .inr (hq.elim (fun h => absurd h.2 Bool.false_ne_true) fun ⟨t, r, h1, h2, _⟩ => ⟨t, r, .tail _ (mem_stL h1), h2, rfl⟩)
end
section
open PySem PySem.W PySem.Calls PyProof.Rows PySem.Spec
set_option maxHeartbeats 1000000
theorem state_S (g : CQ) (q : VQ) (T : ALed) (S : Sem) (ml : Addr) (ps : List Addr) (h : StIs g q T S) (hps : S.ms.map (·.p) = ps) :
    HSpec 4 781 [.ref g.b, .ref ml] ((ml, .list (ps.map .ref)) :: stL g q T) fun K => ∀ d a p, K (.ref d) ((d, .tup [.ref a, .ref p]) :: (a, .list (iv S.tx)) :: (p, .list (iv (S.ms.map (·.y)))) :: (ml, .list (ps.map .ref)) :: stL g q T) := by
  obtain ⟨b, x, cl, mx, rd, ln, rc, u, room, bv⟩ := g
  obtain ⟨pt, zv, nk, ck, sv, A, G, B, ms, nt, rl, vs⟩ := q
  obtain ⟨tx, ms', zv', nk', sv', nt', rows⟩ := S
  obtain ⟨htx, hsz, hms, hzv, hnk, hsv, hnt, hR, ha, hmz, r0, r1⟩ := h
  dsimp only at *
  subst htx hms hzv hnk hsv hnt
  clear hR ha r0 r1
  have hil : (iv (A ++ G ++ B)).length = A.length + G.length + B.length := by rw [List.length_map, List.length_append, List.length_append]
  have hml : (ps.map Value.ref).length ≤ 100000 := by rw [List.length_map, ← hps, List.length_map]; exact Nat.le_trans (Nat.le_of_ble_eq_true hmz) (by decide)
  have e1 : (((iv (A ++ G ++ B)).length : Int) - ((A.length : Int) + G.length) + A.length + 1) = ((A ++ B).length : Int) + 1 := by rw [hil, List.length_append]; lia
  have e2 : ((A ++ B).drop ((1 : Int) - 1).toNat).take ((((A ++ B).length : Int) + 1 - 1).toNat - ((1 : Int) - 1).toNat) = A ++ B := by
    rw [Int.add_sub_cancel, Int.toNat_natCast]; exact List.take_length
  have hc := bcodes_H b x cl mx ln (.ref rc) pt bv zv nk ck sv room A.length (A.length + G.length) 1 ((A ++ B).length + 1) A G B rfl rfl (by decide) (by lia) (by rw [List.length_append]; lia) hsz
  rw [e2] at hc
  refine' HSpec.intro [sN "own_buffer", sN "own_marks"] [] ?ho ?hcd ?hb ?ml ?hn ?hco ?hgen ?hk ?hcell ?body
  walk_at "h_intro"
  case hb => exact arity2 fun _ _ => rfl
  case body =>
  intro c K hK
  refine' X.retS (Ex.tupX (Exs.cons rfl (Ex.meth hc ?ho ?hm (Evs.cons rfl Ev.int (Evs.cons rfl (e1 ▸ Ev.add (Ev.meth (bsize_H b x cl mx ln (.ref rc) pt bv zv nk ck sv room A.length (A.length + G.length) (iv (A ++ G ++ B)) (hil ▸ hsz)) ?ho2 ?hm2 ?ha2 ?Sp2 ?hns2 ?hno2 ?h12 ?h22 ?h32 ?hk2 ?hl2 ?he2) Ev.int) .nil)) ?Sp ?hns ?hno ?h1 ?h2 ?h3 ?hk ?hl ?he ?hp)))
  case ho => walk_at "h_ev"
  case hm => walk_at "h_mem"
  case ho2 => walk_at "h_ev"
  case hm2 => walk_at "h_mem"
  case ha2 => walk_at "h_evs"
  case Sp2 => walk_at "h_split"
  case hns2 => rfl
  case hno2 => decide +kernel
  case h12 => k_is
  case h22 => k_is
  case h32 => k_is
  case hk2 => k_is
  case hl2 => rfl
  case he2 => exact fun _ => rfl
  case Sp => walk_at "h_split"
  case hns => rfl
  case hno => decide +kernel
  case h1 => k_is
  case h2 => k_is
  case h3 => k_is
  case hk => k_is
  case hl => rfl
  case he => exact fun _ => rfl
  case hp =>
  intro a
  (dsimp only [List.cons_append, List.nil_append])
  refine' Exs.cons rfl (Ex.compL (led2 := (a, .list (iv (A ++ B))) :: stL ⟨b, x, cl, mx, rd, ln, rc, u, room, bv⟩ ⟨pt, zv, nk, ck, sv, A, G, B, ms, nt, rl, vs⟩ T) (cl := []) rfl ?hc1 ?hk1 ?hn1 ?hx1 ?hx2 (fun _ => rfl)
    (fun r ys led => ∃ dn td, ms = dn ++ td ∧ r = (td.map (·.p)).map .ref ∧ ys = iv (dn.map (·.y)) ∧ led = (a, .list (iv (A ++ B))) :: stL ⟨b, x, cl, mx, rd, ln, rc, u, room, bv⟩ ⟨pt, zv, nk, ck, sv, A, G, B, ms, nt, rl, vs⟩ T) ?hit ?R hml ⟨[], ms, rfl, by rw [hps], rfl, rfl⟩ ?turn ?fin)
  case hc1 => decide +kernel
  case hk1 => rfl
  case hn1 => decide +kernel
  case hx1 => decide +kernel
  case hx2 => decide +kernel
  case hit => walk_at "h_ev"
  case R => walk_at "h_rem"
  case fin =>
    rintro D ys led ⟨dn, td, e3, e4, rfl, rfl⟩
    obtain rfl := List.map_eq_nil_iff.mp (List.map_eq_nil_iff.mp e4.symm)
    rw [List.append_nil] at e3
    rw [← e3]
    refine' Exs.nil ⟨Nat.le_of_ble_eq_true rfl, fun d => ⟨_, _, ?S, hK d a D⟩⟩
    case S => walk_at "h_split"
  case turn =>
    rintro ob v r ys led L oL I oI C D oD ⟨dn, td, e3, e4, rfl, rfl⟩
    cases td with
    | nil => cases e4
    | cons m td =>
      cases e4
      have ho : mkA (.ref b) m ∈ ms.map (mkA (.ref b)) := List.mem_map_of_mem (e3 ▸ List.mem_append_right _ (.head _))
      refine' Ex.ev ?v ⟨_, ?S2, dn ++ [m], td, by rw [e3, List.append_assoc]; rfl, rfl, ?e5, rfl⟩
      case v => walk_at "h_ev"
      case S2 => walk_at "h_split"
      case e5 => rw [List.map_append, iv, iv, List.map_append]; rfl
end
section
open PySem PySem.W PySem.Calls PyProof.Rows PySem.Spec
set_option maxHeartbeats 1000000
inductive UndS (bv : Int) : List RW → Sem → List Sem → Sem → Prop
  | nil {rows : List RW} {S : Sem} : UndS bv rows S [] S
  | cons {rows rows' : List RW} {S S1 S' : Sem} {l : List Sem} : GroupU bv rows S rows' S1 → ¬ AtBd S1.rows → S1.rows.length ≤ 900 → UndS bv rows' (bndS S1) l S' → UndS bv rows S (S1 :: l) S'
inductive FEs (T : ALed) : List Value → List Sem → Prop
  | nil : FEs T [] []
  | cons {t d a p S vs l} : (t, AO.tup [.ref d, .bool (imS S)]) ∈ T → (d, AO.tup [.ref a, .ref p]) ∈ T → (a, AO.list (iv S.tx)) ∈ T → (p, AO.list (iv (S.ms.map (·.y)))) ∈ T → FEs T vs l → FEs T (.ref t :: vs) (S :: l)
theorem FEs.mono {T T' : ALed} (hs : ∀ p ∈ T, p ∈ T') {vs : List Value} {l : List Sem} (h : FEs T vs l) : FEs T' vs l := by
  induction h with
  | nil => exact .nil
  | cons h1 h2 h3 h4 _ ih => exact .cons (hs _ h1) (hs _ h2) (hs _ h3) (hs _ h4) ih
theorem FEs.app {T : ALed} {vs vs' : List Value} {l l' : List Sem} (h : FEs T vs l) (h' : FEs T vs' l') : FEs T (vs ++ vs') (l ++ l') := by
  induction h with
  | nil => exact h'
  | cons h1 h2 h3 h4 _ ih => exact .cons h1 h2 h3 h4 ih
theorem FEs.len {T : ALed} {vs : List Value} {l : List Sem} (h : FEs T vs l) : vs.length = l.length := by
  induction h with
  | nil => rfl
  | cons _ _ _ _ _ ih => rw [List.length_cons, List.length_cons, ih]
theorem StepU.ps {bv : Int} {rows rows' : List RW} {S S' : Sem} (h : StepU bv rows S rows' S') : S'.ms.map (·.p) = S.ms.map (·.p) := by
  cases h with
  | ins => exact adj_p _ _
  | del => exact (addAll_p _ _).trans (adj_p _ _)
  | unm => rfl
theorem StepsU.ps {bv : Int} {rows rows' : List RW} {S S' : Sem} (h : StepsU bv rows S rows' S') : S'.ms.map (·.p) = S.ms.map (·.p) := by
  induction h with
  | done => rfl
  | step _ h _ ih => exact ih.trans h.ps
theorem StepsU.pre {bv : Int} {rows rows' : List RW} {S S' : Sem} (h : StepsU bv rows S rows' S') : ∃ t, rows = rows' ++ t := by
  induction h with
  | done => exact ⟨[], (List.append_nil _).symm⟩
  | step _ h _ ih =>
    obtain ⟨t, rfl⟩ := ih
    obtain ⟨t', rfl, -⟩ := h.len
    exact ⟨t ++ t', List.append_assoc _ _ _⟩
noncomputable abbrev unLo (b ml u W Fd : Addr) (n : Int) (pl x : Option Value) : Lo := [(sN "own_buffer", some (.ref b)), (sN "own_many", some (.int n 0)), (sN "own_marks", some (.ref ml)), (sN "history", some (.ref u)), (sN "waiting", some (.ref W)), (sN "found", some (.ref Fd)), (sN "place", pl), (sN "at", x)]
inductive UnJ (g : CQ) (q : VQ) (T : ALed) (S' : Sem) (ml W Fd : Addr) (ps : List Addr) (l : List Sem) (n : Nat) (r : List Value) (lo : Lo) (led : ALed) : Prop
  | mk (x0 : Option Value) (rows1 : List RW) (S1 : Sem) (q1 : VQ) (T1 : ALed) (dn td : List Sem) (fv va1 tl1 : List Value) (f0 : lo = unLo g.b ml g.u W Fd n (some (.int (va1 : List Value).length 0)) x0) (f1 : l = dn ++ td) (f2 : r.length = td.length) (f3 : UndS g.bv rows1 S1 td S') (f4 : StIs g q1 T1 S1) (f5 : (∀ p ∈ T, p ∈ T1)) (f6 : S1.ms.map (·.p) = ps) (f7 : q.vs = va1 ++ tl1) (f8 : RowsAt T1 va1 rows1) (f9 : FEs T1 fv dn) (f10 : led = (Fd, .list fv) :: (W, .list q.vs) :: (ml, .list (ps.map .ref)) :: stL g q1 T1)
theorem undone_S (g : CQ) (q : VQ) (T : ALed) (S S' : Sem) (ml : Addr) (ps : List Addr) (l : List Sem) (n : Nat) (hn : n = l.length) (h : StIs g q T S) (hps : S.ms.map (·.p) = ps) (hu : UndS g.bv S.rows S l S') (hb : 1 ≤ g.bv) (hl : S.rows.length ≤ 900) (hz : n ≤ 100) :
    HSpec 12 788 [.ref g.b, .int n 0, .ref ml] ((ml, .list (ps.map .ref)) :: stL g q T) fun K => ∀ Fd fv q' T', (∀ p ∈ T, p ∈ T') → StIs g q' T' S' → FEs T' fv l → K (.ref Fd) ((Fd, .list fv) :: (ml, .list (ps.map .ref)) :: stL g q' T') := by
  have hvl : q.vs.length ≤ 900 := h.rows.len ▸ hl
  refine' HSpec.intro [sN "own_buffer", sN "own_many", sN "own_marks"] [sN "history", sN "waiting", sN "found", sN "place", sN "at"] ?ho ?hcd ?hb ?ml ?hn ?hco ?hgen ?hk ?hcell ?body
  walk_at "h_intro"
  case hb => exact arity3 fun _ _ _ => rfl
  case body =>
  intro c K hK
  walk_at "h_assign"
  case k =>
  refine' X.swap [sN "waiting", sN "found"] (Exs.cons rfl (Ex.copy ?e ?m (Nat.le_trans hvl (by decide)) rfl ?g ?n fun W => Exs.cons rfl (Ex.list .nil rfl fun Fd => Exs.nil ⟨Nat.le_of_ble_eq_true rfl, _, ?sn, ?k⟩))) ?hs ?hw
  case e => walk_at "h_ev"
  case m => walk_at "h_mem"
  case g => decide +kernel
  case n => k_is
  case sn => walk_at "h_setns2"
  case hs => exact fun _ => rfl
  case hw => with_unfolding_all rfl
  case k =>
  have hvl' : q.vs.length ≤ 1000 := Nat.le_trans hvl (by decide)
  walk_at "h_assign"
  case k =>
  refine' X.forR (UnJ g q T S' ml W Fd ps l n) rfl ?hn2 ?hg2 (Ex.ev ?e2 ⟨n, 0, rfl, Nat.le_trans hz (by decide), ?J0⟩) ?done ?turn (fun _ => rfl)
  case hn2 => k_is
  case hg2 => decide +kernel
  case e2 => walk_at "h_ev"
  case J0 => exact ⟨none, S.rows, S, q, T, [], l, [], q.vs, [], rfl, rfl, by rw [← hn]; exact (List.length_map _).trans List.length_range, hu, h, fun _ h => h, hps, (List.append_nil _).symm, h.rows, .nil, rfl⟩
  case done =>
    rintro lo led ⟨x0, rows1, S1, q1, T1, dn, td, fv, va1, tl1, rfl, e1, e2, hu1, hi, hT, hp1, e3, hR, hF, rfl⟩
    obtain rfl := List.eq_nil_of_length_eq_zero e2.symm
    rw [List.append_nil] at e1
    subst e1
    cases hu1
    refine' X.ret ?h ?S (hK Fd fv q1 T1 hT hi hF)
    case h => walk_at "h_ev"
    case S => walk_at "h_split"
  case turn =>
    rintro I it v r lo led ⟨x0, rows1, S1, q1, T1, dn, td, fv, va1, tl1, rfl, e1, e2, hu1, hi, hT, hp1, e3, hR, hF, rfl⟩
    cases hu1 with
    | nil => cases e2
    | @cons _ rows2 _ S2 _ td hG hnb hl2 hu2 =>
      refine' ⟨_, ?sl, ?kk⟩
      case sl => walk_at "h_setl"
      case kk =>
      have hg := group_S g q1 T1 S1 S2 W va1 tl1 rows1 rows2 hi hR hG hb (e3 ▸ hvl')
      rw [← e3] at hg
      refine' X.assignE rfl ?_
      refine' Ex.call (hg) ?ha ?Sp ?hn ?hk ?hg ?hl ?hp
      walk_at "h_call"
      case hp =>
      intro q2 T2 hT2 hi2
      refine' ⟨_, ?sl2, ?k2⟩
      case sl2 => walk_at "h_setl"
      case k2 =>
      refine' X.drop (led1 := (I, .obj it) :: (Fd, .list fv) :: (W, .list q.vs) :: (ml, .list (ps.map .ref)) :: stL g q2 T2) ?S1 ?k1
      case S1 => (simp only [List.cons_append, List.append_assoc (List.map (mkA _) _)]); walk_at "h_split"
      case k1 =>
      refine' X.expr rfl ?_
      refine' Ex.meth (boundary_H g.u q2.rl (ntV q2.nt) q2.vs T2 (by rw [hi2.rows.len]; exact Nat.le_trans hl2 (by decide)) (hi2.rows.nbd hnb)) ?ho ?hm ?ha ?Sp ?hns ?hno ?h1 ?h2 ?h3 ?hk ?hl ?he ?hp
      walk_at "h_meth"
      case hp =>
      refine' X.drop (led1 := (I, .obj it) :: (Fd, .list fv) :: (W, .list q.vs) :: (ml, .list (ps.map .ref)) :: stL g { q2 with vs := q2.vs ++ [.ref 190] } T2) ?S3 ?k3
      case S3 => (simp only [List.cons_append]); walk_at "h_split"
      case k3 =>
      have hi3 : StIs g { q2 with vs := q2.vs ++ [.ref 190] } T2 (bndS S2) := ⟨hi2.tx, hi2.sz, hi2.ms, hi2.zv, hi2.nk, hi2.sv, hi2.nt, hi2.rows.app (.cons .b .nil), hi2.asc, hi2.mz, hi2.r0, hi2.r1⟩
      have hps2 : (bndS S2).ms.map (·.p) = ps := by
        obtain ⟨pre, _, _, hst⟩ := hG
        exact hst.ps.trans hp1
      have hst := state_S g { q2 with vs := q2.vs ++ [.ref 190] } T2 (bndS S2) ml ps hi3 hps2
      have him : decide (q2.sv < q2.nk) = imS S2 := by rw [hi2.sv, hi2.nk]; rfl
      have hR2 : ∃ va2 tl2, q.vs = va2 ++ tl2 ∧ RowsAt T2 va2 rows2 ∧ (rows2.length : Int) = va2.length := by
        obtain ⟨pre, e4, _, hst⟩ := hG
        obtain ⟨t, e5⟩ := hst.pre
        subst e4 e5
        rw [List.append_assoc] at hR
        obtain ⟨va2, vt, e6, h5, -⟩ := (hR.mono hT2).split
        exact ⟨va2, vt ++ tl1, by rw [e3, e6, List.append_assoc], h5, by rw [h5.len]⟩
      obtain ⟨va2, tl2, e4, hR2, e5⟩ := hR2
      have hfl : fv.length ≤ 100 := by rw [hF.len]; rw [e1, List.length_append] at hn; lia
      clear hg hi hR hG hi2
      refine' X.expr rfl ?_
      walk_at "h_appendE"
      case he =>
      refine' Ex.tupX (Exs.cons rfl (Ex.call hst ?ha ?Sp ?hn ?hk ?hg ?hl ?hp))
      walk_at "h_call"
      case hp =>
      intro d a p
      (simp only [List.cons_append, List.append_assoc (List.map (mkA _) _)])
      refine' Exs.ev rfl (v := .bool (imS S2)) (him ▸ ?em) (Exs.nil ⟨Nat.le_of_ble_eq_true rfl, fun t => ⟨_, _, ?R, Nat.le_trans hfl (by decide), ?k4⟩⟩)
      case em => walk_at "h_ev"
      case R => walk_at "h_rep"
      case k4 =>
      refine' X.tend (led5 := (Fd, .list (fv ++ [.ref t])) :: (W, .list q.vs) :: (ml, .list (ps.map .ref)) :: stL g { q2 with vs := q2.vs ++ [.ref 190] } ((t, .tup [.ref d, .bool (imS S2)]) :: (d, .tup [.ref a, .ref p]) :: (a, .list (iv (bndS S2).tx)) :: (p, .list (iv ((bndS S2).ms.map (·.y)))) :: T2)) ?S5 ?S6 ⟨some v, rows2, bndS S2, { q2 with vs := q2.vs ++ [.ref 190] }, (t, .tup [.ref d, .bool (imS S2)]) :: (d, .tup [.ref a, .ref p]) :: (a, .list (iv (bndS S2).tx)) :: (p, .list (iv ((bndS S2).ms.map (·.y)))) :: T2, dn ++ [S2], td, fv ++ [.ref t], va2, tl2, ?lo, ?e1, ?e2, hu2, hi3.mon ?s1, ?s2, hps2, e4, hR2.mono ?s3, ?hF, rfl⟩
      case S5 => walk_at "h_split"
      case S6 => walk_at "h_split"
      case lo => rw [e5]
      case e1 => rw [e1, List.append_assoc]; rfl
      case e2 => exact Nat.succ.inj e2
      case s1 => exact fun p hp => .tail _ (.tail _ (.tail _ (.tail _ hp)))
      case s2 => exact fun p hp => .tail _ (.tail _ (.tail _ (.tail _ (hT2 p (hT p hp)))))
      case s3 => exact fun p hp => .tail _ (.tail _ (.tail _ (.tail _ hp)))
      case hF => exact (hF.mono fun p hp => .tail _ (.tail _ (.tail _ (.tail _ (hT2 p hp))))).app (.cons (.head _) (.tail _ (.head _)) (.tail _ (.tail _ (.head _))) (.tail _ (.tail _ (.tail _ (.head _)))) .nil)
end
section
open PySem PySem.W PySem.Calls PyProof.Rows PySem.Spec
set_option maxHeartbeats 1000000
inductive Ed
  | I (pl : Int) (cs : List Int) (bf : Bool)
  | D (st nd : Int)
  | R (st nd : Int) (cs : List Int)
noncomputable def edS : Ed → Sem → Sem
  | .I pl cs bf, S => insS pl cs bf S
  | .D st nd, S => delS st nd S
  | .R st nd cs, S => repS st nd cs S
noncomputable def EdOk (bv : Int) : Ed → List Int → Int → Prop
  | .I pl cs _, t, zv => cs ≠ [] ∧ cs.length ≤ 100 ∧ bv ≤ pl ∧ pl ≤ zv ∧ zv ≤ t.length + 1
  | .D st nd, t, zv => bv ≤ st ∧ st < nd ∧ nd ≤ zv ∧ zv ≤ t.length + 1
  | .R st nd cs, t, zv => cs ≠ [] ∧ cs.length ≤ 100 ∧ bv ≤ st ∧ st < nd ∧ nd ≤ zv ∧ zv ≤ t.length + 1
noncomputable def edOf (st nd : Int) (cs : List Int) (ah : Bool) (more : Int) : Ed := if st = nd then .I (st + more) cs ah else if cs = [] then .D (st + more) (nd + more) else .R (st + more) (nd + more) cs
noncomputable abbrev edT (st nd : Int) (cr : Addr) (ah : Bool) : AO := .tup [.int st 0, .int nd 0, .ref cr, .bool ah]
noncomputable abbrev donePost (g : CQ) (T : ALed) (S : Sem) (K : Value → ALed → Prop) : Prop := ∀ d q' T', (∀ p ∈ T, p ∈ T') → StIs g q' T' S → K (.ref d) (stL g q' T')
section
variable (g : CQ) (q : VQ) (T : ALed) (S : Sem) (st nd more : Int) (ed cr : Addr) (cs : List Int) (ah : Bool) (hcr : (cr, AO.list (iv cs)) ∈ T) (hed : (ed, edT st nd cr ah) ∈ T) (h : StIs g q T S) (hb : 1 ≤ g.bv) (hl : S.rows.length ≤ 600) (ht : S.tx.length ≤ 600)
include hb hl ht hcr hed h
theorem done_i (e : st = nd) (hok : EdOk g.bv (.I (st + more) cs ah) S.tx S.zv) (hla : LastRw S.rows (imS S) S.nt S.sv) :
    HSpec 8 776 [.ref g.b, .ref ed, .int more 0] (stL g q T) fun K => donePost g T (insS (st + more) cs ah S) K := by
  obtain ⟨h1, h2, h3, h4, h5⟩ := hok
  have hi := insat_S g q T S cr (st + more) cs ah h hcr h3 h4 hb h5 h1 (by lia) (by lia) hla
  refine' HSpec.intro [sN "own_buffer", sN "edit", sN "own_more"] [sN "start", sN "end", sN "came", sN "is_ahead"] ?ho ?hcd ?hb ?ml ?hn ?hco ?hgen ?hk ?hcell ?body
  walk_at "h_intro"
  case hb => exact arity3 fun _ _ _ => rfl
  case body =>
  intro c K hK
  refine' X.assignT (Ex.ev ?ev ⟨_, Asg.tup (vs := [.int st 0, .int nd 0, .ref cr, .bool ah]) ?m ?s, ?k⟩) ?hs ?hw
  case ev => walk_at "h_ev"
  case m => exact mem_stL hed
  case s => walk_at "h_setts"
  case hs => exact fun _ => rfl
  case hw => with_unfolding_all rfl
  case k =>
  refine' X.iteT (Ts.to ?xt1 ?xe1) ?xk1
  case xt1 => walk_at "h_ts"
  case xe1 => exact (decide_eq_true e)
  case xk1 =>
  refine' X.expr rfl ?_
  refine' Ex.call (hi) ?ha ?Sp ?hn ?hk ?hg ?hl ?hp
  walk_at "h_call"
  case hp =>
  intro q' T' hT hq'
  (simp only [List.append_nil])
  refine' X.retP (Ex.list .nil rfl fun d => ?_)
  refine' ⟨_, _, ?S, hK d q' T' hT hq'⟩
  case S => walk_at "h_split"
theorem done_d (e : cs = []) (hok : EdOk g.bv (.D (st + more) (nd + more)) S.tx S.zv) (hat : AtBd S.rows) :
    HSpec 8 776 [.ref g.b, .ref ed, .int more 0] (stL g q T) fun K => donePost g T (delS (st + more) (nd + more) S) K := by
  obtain ⟨h1, h2, h3, h4⟩ := hok
  have hi := delete_S g q T S (st + more) (nd + more) h h1 h2 h3 hb h4 (by lia) hat
  have hne : decide (st = nd) = false := decide_eq_false (by lia)
  subst e
  refine' HSpec.intro [sN "own_buffer", sN "edit", sN "own_more"] [sN "start", sN "end", sN "came", sN "is_ahead"] ?ho ?hcd ?hb ?ml ?hn ?hco ?hgen ?hk ?hcell ?body
  walk_at "h_intro"
  case hb => exact arity3 fun _ _ _ => rfl
  case body =>
  intro c K hK
  refine' X.assignT (Ex.ev ?ev ⟨_, Asg.tup (vs := [.int st 0, .int nd 0, .ref cr, .bool ah]) ?m ?s, ?k⟩) ?hs ?hw
  case ev => walk_at "h_ev"
  case m => exact mem_stL hed
  case s => walk_at "h_setts"
  case hs => exact fun _ => rfl
  case hw => with_unfolding_all rfl
  case k =>
  refine' X.iteF (Ts.to ?xt2 ?xe2) ?xk2
  case xt2 => walk_at "h_ts"
  case xe2 => exact hne
  case xk2 =>
  refine' X.nilT ?_
  refine' X.iteE (TsE.cmp (Ex.ev ?ev2 (Ex.list .nil rfl fun d0 => ⟨true, Cmp.eqD (.list (.tail _ (mem_stL hcr)) (ads_iv [])) (.list (.head _) .nil) (shapedI []) (shapedI []) (Nat.le_of_ble_eq_true rfl) rfl, fun _ => ?k2, fun h => absurd h.symm Bool.false_ne_true⟩)) rfl)
  case ev2 => walk_at "h_ev"
  case k2 =>
  refine' X.retP ?_
  refine' Ex.call (hi) ?ha ?Sp ?hn ?hk ?hg ?hl ?hp
  walk_at "h_call"
  case hp =>
  intro d q' T' hT hq'
  (simp only [List.cons_append, List.append_assoc (List.map (mkA _) _)])
  refine' ⟨_, _, ?S, hK d q' T' hT hq'⟩
  case S => walk_at "h_split"
theorem done_r (hok : EdOk g.bv (.R (st + more) (nd + more) cs) S.tx S.zv) (hat : AtBd S.rows) (hl2 : (outS (st + more) (nd + more) S).rows.length ≤ 900) :
    HSpec 8 776 [.ref g.b, .ref ed, .int more 0] (stL g q T) fun K => donePost g T (repS (st + more) (nd + more) cs S) K := by
  obtain ⟨h1, h2, h3, h4, h5, h6⟩ := hok
  have hi := replace_S g q T S (st + more) (nd + more) cr cs h hcr h3 h4 h5 hb h6 h1 (by lia) hl2 (by lia) hat
  have hne : decide (st = nd) = false := decide_eq_false (by lia)
  have hev : PyData.eqv (.list (cs.map PyData.int)) (.list []) = false := by
    cases cs with
    | nil => exact absurd rfl h1
    | cons => rfl
  refine' HSpec.intro [sN "own_buffer", sN "edit", sN "own_more"] [sN "start", sN "end", sN "came", sN "is_ahead"] ?ho ?hcd ?hb ?ml ?hn ?hco ?hgen ?hk ?hcell ?body
  walk_at "h_intro"
  case hb => exact arity3 fun _ _ _ => rfl
  case body =>
  intro c K hK
  refine' X.assignT (Ex.ev ?ev ⟨_, Asg.tup (vs := [.int st 0, .int nd 0, .ref cr, .bool ah]) ?m ?s, ?k⟩) ?hs ?hw
  case ev => walk_at "h_ev"
  case m => exact mem_stL hed
  case s => walk_at "h_setts"
  case hs => exact fun _ => rfl
  case hw => with_unfolding_all rfl
  case k =>
  refine' X.iteF (Ts.to ?xt3 ?xe3) ?xk3
  case xt3 => walk_at "h_ts"
  case xe3 => exact hne
  case xk3 =>
  refine' X.nilT ?_
  refine' X.iteE (TsE.cmp (Ex.ev ?ev2 (Ex.list .nil rfl fun d0 => ⟨false, Cmp.eqD (.list (.tail _ (mem_stL hcr)) (ads_iv cs)) (.list (.head _) .nil) (shapedI cs) (shapedI []) (Nat.le_of_ble_eq_true rfl) hev, fun h => absurd h Bool.false_ne_true, fun _ => ?k2⟩)) rfl)
  case ev2 => walk_at "h_ev"
  case k2 =>
  refine' X.nilT ?_
  refine' X.retP ?_
  refine' Ex.call (hi) ?ha ?Sp ?hn ?hk ?hg ?hl ?hp
  walk_at "h_call"
  case hp =>
  intro d q' T' hT hq'
  (simp only [List.cons_append, List.append_assoc (List.map (mkA _) _)])
  refine' ⟨_, _, ?S, hK d q' T' hT hq'⟩
  case S => walk_at "h_split"
end
end
section
open PySem PySem.W PySem.Calls PyProof.Rows PySem.Spec
set_option maxHeartbeats 1000000
noncomputable abbrev dkC (dk il n : Addr) (k : Int) (ns : List Int) : ALed := (dk, .list [.ref il, .int k 0]) :: (il, .list (iv ns)) :: [(n, .cell (some (.ref dk)))]
theorem edit_H (dk il : Addr) (k st nd : Int) (ns : List Int) (hl : ns.length ≤ 63) (hk0 : 0 ≤ k) (hk1 : k ≤ 900) (hle : st ≤ nd) :
    HSpec 3 762 [.ref dk, .int st 0, .int nd 0] (dkL dk il k ns) fun K => ∀ ed cr cs ah k', cs.length ≤ 3 → (st = nd → cs ≠ []) → k ≤ k' → k' ≤ k + 10 → K (.ref ed) ((ed, edT st nd cr ah) :: (cr, .list (iv cs)) :: dkL dk il k' ns) := by
  refine' HSpec.introC [sN "deck", sN "start", sN "end"] [sN "came"] [] (fun n => [(sN "deck", n)]) (fun n => [(n, .cell (some (.ref dk)))]) ?ho ?hcd ?hb ?ml ?hn ?hn2 ?hn3 ?hn4 ?hcs ?hca ?hcl ?hco ?hgen ?hk ?body
  case ho => (intro w; k_is)
  case hcd => (intro w; k_is)
  case hb => (intro w s vs' _ h; obtain ⟨_, _, _, rfl⟩ := len3 h; exact BindsTo.of_eq rfl)
  case ml => exact .cel (.arg (.arg (.loc .nil)))
  case hn => rfl
  case hn2 => exact (by decide +kernel : [sN "start", sN "end", sN "came"].Nodup)
  case hn3 => decide +kernel
  case hn4 => decide +kernel
  case hcs => exact fun _ => rfl
  case hca => (intro n; exact cells1 (x := sN "deck") (f := fun x => List.lookup x _) (by decide +kernel))
  case hcl => exact fun n => .val (.head _) .nil
  case hco => rfl
  case hgen => rfl
  case hk => rfl
  case body =>
  intro c K n hcl hK
  have hst : c.cl.lookup (sN "deck") = some n := lk_eq hcl rfl
  (dsimp only [List.cons_append, List.nil_append])
  refine' X.iteEK (fun led => ∃ k1, k ≤ k1 ∧ k1 ≤ k + 1 ∧ led = (n, .cell (some (.ref dk))) :: dkL dk il k1 ns) (TsE.and (Ts.cmp ?t1 ?t2 Cmp.lt rfl) (fun h => TsE.andL (TsE.cmp (Ex.call (draw_H dk il k 2 ns hl hk0 (by lia) (by decide)) ?ha ?Sp ?hn ?hk ?hg ?hl ?hp) rfl)) (fun _ => ⟨fun h => absurd h Bool.false_ne_true, fun _ => X.nil ⟨rfl, k, Int.le_refl _, by lia, rfl⟩⟩)) ?kk
  case t1 => walk_at "h_ev"
  case t2 => walk_at "h_ev"
  walk_at "h_call"
  case hp =>
    intro j j0 j1
    (dsimp only [List.cons_append, List.nil_append])
    refine' Ex.ev Ev.int ⟨_, Cmp.eq, fun hy => ?y1, fun hy => X.drop (led1 := (n, .cell (some (.ref dk))) :: dkL dk il (k + 1) ns) ?S9 (X.nil ⟨rfl, k + 1, by lia, Int.le_refl _, rfl⟩)⟩
    case S9 => walk_at "h_split"
    case y1 =>
      refine' X.retP (Ex.tupX (Exs.ev rfl ?v1 (Exs.ev rfl ?v2 (Exs.cons rfl (Ex.list .nil rfl fun cr => Exs.ev rfl Ev.bool (Exs.nil ⟨Nat.le_of_ble_eq_true rfl, fun ed => ⟨(ed, edT st nd cr false) :: (cr, .list []) :: dkL dk il (k + 1) ns, _, ?S8, hK ed cr [] false (k + 1) (Nat.zero_le _) (fun e => absurd (of_decide_eq_true h) (by lia)) (by lia) (by lia)⟩⟩))))))
      case v1 => walk_at "h_ev"
      case v2 => walk_at "h_ev"
      case S8 => walk_at "h_split"
  case kk =>
  rintro led ⟨k1, l0, l1, rfl⟩
  refine' X.compR (cl := [(sN "deck", n)]) ?sw (clos_eq hcl ?clos) ?hc1 ?hk1 ?hn1 ?hx1 ?hx2 (fun _ => rfl)
    (fun r ys led => ∃ zs k2, ys = iv zs ∧ 1 ≤ zs.length + r.length ∧ zs.length + r.length ≤ 3 ∧ k1 ≤ k2 ∧ k2 ≤ k1 + 1 + zs.length ∧ led = dkC dk il n k2 ns) rfl ?hrn ?hrg (Ex.bin (Ex.ev Ev.int (Ex.call (draw_H dk il k1 3 ns hl (by lia) (by lia) (by decide)) ?ha2 ?Sp2 ?hn2 ?hk2 ?hg2 ?hl2 ?hp2))) ?turn ?fin
  case sw => rfl
  case clos => rfl
  case hc1 => decide +kernel
  case hk1 => rfl
  case hn1 => decide +kernel
  case hx1 => decide +kernel
  case hx2 => decide +kernel
  case hrn => k_is
  case hrg => decide +kernel
  case ha2 => walk_at "h_evs"
  case Sp2 => walk_at "h_split"
  case hn2 => k_is
  case hk2 => k_is
  case hg2 => decide +kernel
  case hl2 => rfl
  case hp2 =>
    intro j j0 j1
    (dsimp only [List.cons_append, List.nil_append])
    obtain ⟨m, rfl⟩ := Int.eq_ofNat_of_zero_le j0
    refine' Opn.addI ⟨1 + m, 0, by rw [Int.natCast_add]; rfl, by lia, [], k1 + 1, rfl, ?b1, ?b2, by lia, by lia, rfl⟩
    case b1 => show 1 ≤ 0 + (rangeVs _).length; rw [rangeVs, List.length_map, List.length_range]; lia
    case b2 => show 0 + (rangeVs _).length ≤ 3; rw [rangeVs, List.length_map, List.length_range]; lia
  case turn =>
    rintro v r ys led oL I oI C D oD ⟨zs, k2, rfl, m0, m1, m2, m3, rfl⟩ ok nsL hgL
    have l9 := List.length_cons (a := v) (as := r)
    refine' Ex.bin (Ex.ev Ev.int (Ex.callIn ok nsL hgL (draw_H dk il k2 6 ns hl (by lia) (by lia) (by decide)) (Evs.cons rfl (Ev.cell ?f1 ?f2 ?f3) (Evs.cons rfl Ev.int .nil)) ?Sp3 ?hn3 ?hk3 ?hg3 ?hl3 ?hp3))
    case f1 => exact rfl
    case f2 => walk_at "h_mem"
    case f3 => decide +kernel
    case Sp3 => walk_at "h_split"
    case hn3 => k_is
    case hk3 => k_is
    case hg3 => decide +kernel
    case hl3 => rfl
    case hp3 =>
      intro j j0 j1
      (dsimp only [List.cons_append, List.nil_append])
      refine' Opn.addI ⟨_, ?S4, zs ++ [97 + j], k2 + 1, ?e1, ?e2, ?e3, by lia, ?e4, rfl⟩
      case S4 => walk_at "h_split"
      case e1 => rw [iv, iv, List.map_append]; rfl
      case e2 => rw [len_snoc]; lia
      case e3 => rw [len_snoc]; lia
      case e4 => rw [len_snoc]; lia
  case fin =>
    rintro D ys led ⟨zs, k2, rfl, m0, m1, m2, m3, rfl⟩
    have l9 := List.length_nil (α := Value)
    have hz : zs ≠ [] := fun e => by rw [e] at m0; exact absurd m0 (by decide)
    refine' ⟨_, ?sl, X.retP (Ex.tupX (Exs.ev rfl ?w1 (Exs.ev rfl ?w2 (Exs.ev rfl ?w3 (Exs.cons rfl (Ex.and (Ev.cmp ?u1 ?u2 Cmp.eq rfl) (fun _ => Ex.bone (Ex.cmp (Ex.call (draw_H dk il k2 2 ns hl (by lia) (by lia) (by decide)) ?ha5 ?Sp5 ?hn5 ?hk5 ?hg5 ?hl5 ?hp5) rfl)) (fun _ => Exs.nil ⟨Nat.le_of_ble_eq_true rfl, fun ed => ⟨_, _, ?S7, hK ed D zs false k2 (by lia) (fun _ => hz) (by lia) (by lia)⟩⟩)))))))⟩
    case sl => walk_at "h_setl"
    case w1 => walk_at "h_ev"
    case w2 => walk_at "h_ev"
    case w3 => walk_at "h_ev"
    case u1 => walk_at "h_ev"
    case u2 => walk_at "h_ev"
    case S7 => walk_at "h_split"
    case ha5 => walk_at "h_evs"
    case Sp5 => walk_at "h_split"
    case hn5 => k_is
    case hk5 => k_is
    case hg5 => decide +kernel
    case hl5 => rfl
    case hp5 =>
      intro j j0 j1
      (dsimp only [List.cons_append, List.nil_append])
      refine' Ex.ev Ev.int ⟨_, Cmp.eq, Exs.nil ⟨Nat.le_of_ble_eq_true rfl, fun ed => ⟨_, _, ?S6, hK ed D zs (decide (j = 1)) (k2 + 1) (by lia) (fun _ => hz) (by lia) (by lia)⟩⟩⟩
      case S6 => walk_at "h_split"
end
section
open PySem PySem.W PySem.Calls PyProof.Rows PySem.Spec
set_option maxHeartbeats 1000000
noncomputable abbrev buf0 (b x mx ln : Addr) (pt bv zv nk ck sv : Int) : Addr × AO := (b, .inst 673 (bufF x mx ln .none pt bv zv nk ck sv))
theorem textin0_H (b x cl mx ln cr : Addr) (room : Int) (nk ck sv : Int) (G cs : List Int) (hg : room = G.length) (hr : room ≤ 100) (hz : cs.length ≤ 100) :
    HSpec 3 83 [.ref b, .int 1 0, .ref cr] [buf0 b x mx ln 1 1 1 nk ck sv, (x, .inst 422 (gapF cl room 0 room)), (cl, .list (iv G)), (cr, .list (iv cs))] fun K => ∀ (gs ge : Int) (A G' B : List Int), gs = A.length → ge = A.length + G'.length → A ++ B = cs → A.length + G'.length + B.length ≤ 1000 →
      K .none [buf0 b x mx ln 1 1 (1 + cs.length) nk ck sv, (x, .inst 422 (gapF cl room gs ge)), (cl, .list (iv (A ++ G' ++ B))), (cr, .list (iv cs))] := by
  have hi := insert_H x cl cr room 0 room (1 - 1) [] G [] cs rfl (by rw [hg]; simp) (by lia) (by simp; lia) (by simp; lia) (by decide) (by decide)
  have hil : (iv cs).length ≤ 1000 := by rw [List.length_map]; lia
  rw [show ([] : List Int) ++ G ++ [] = G from List.append_nil G] at hi
  refine' HSpec.intro [sN "buffer", sN "place", sN "codes"] [] ?ho ?hcd ?hb ?ml ?hn ?hco ?hgen ?hk ?hcell ?body
  walk_at "h_intro"
  case hb => exact arity3 fun _ _ _ => rfl
  case body =>
  intro c K hK
  refine' X.iteF (Ts.to ?xt1 ?xe1) ?xk1
  case xt1 => walk_at "h_ts"
  case xe1 => exact rfl
  case xk1 =>
  refine' X.nilT ?_
  refine' X.expr rfl ?_
  refine' Ex.meth (hi) ?ho ?hm ?ha ?Sp ?hns ?hno ?h1 ?h2 ?h3 ?hk ?hl ?he ?hp
  walk_at "h_meth"
  case hp =>
  intro gs ge A G' B e1 e2 e3 e4
  (dsimp only [List.cons_append, List.nil_append])
  walk_at "h_setattr"
  case k =>
  refine' X.iteF (Ts.to ?xt2 ?xe2) ?xk2
  case xt2 => walk_at "h_ts"
  case xe2 => exact rfl
  case xk2 =>
  refine' X.nilT ?_
  refine' X.finF ?S (hK gs ge A G' B e1 e2 (by rw [e3]; simp) e4)
  case S => walk_at "h_split"
theorem put0_H (b x cl mx rd ln cr : Addr) (room : Int) (G cs : List Int) (hg : room = G.length) (hr : room ≤ 100) (hz : cs.length ≤ 100) (hn : cs ≠ []) :
    HSpec 4 104 [.ref b, .int 1 0, .ref cr, .bool false, .bool false] (buf0 b x mx ln 1 1 1 1 1 1 :: (x, .inst 422 (gapF cl room 0 room)) :: (cl, .list (iv G)) :: (mx, .inst 567 (mksF rd)) :: (rd, .idict []) :: (ln, .list []) :: [(cr, .list (iv cs))]) fun K => ∀ (gs ge : Int) (A G' B : List Int), gs = A.length → ge = A.length + G'.length → A ++ B = cs → A.length + G'.length + B.length ≤ 1000 →
      K .none (buf0 b x mx ln 1 1 (1 + cs.length) (1 + 1) (1 + 1) 1 :: (x, .inst 422 (gapF cl room gs ge)) :: (cl, .list (iv (A ++ G' ++ B))) :: (mx, .inst 567 (mksF rd)) :: (rd, .idict []) :: (ln, .list []) :: [(cr, .list (iv cs))]) := by
  have hil : (iv cs).length ≤ 1000 := by rw [List.length_map]; lia
  have hm0 : decide ((cs.length : Int) = 0) = false := decide_eq_false fun e => hn (List.eq_nil_of_length_eq_zero (Int.ofNat.inj e))
  have hi := inserted_H mx rd (.ref b) [] 1 (1 + cs.length) false rfl rfl .nil
  simp only [mkL, kvM, List.map_nil] at hi
  refine' HSpec.intro [sN "buffer", sN "place", sN "codes", sN "before_markers", sN "is_point_behind"] [] ?ho ?hcd ?hb ?ml ?hn ?hco ?hgen ?hk ?hcell ?body
  walk_at "h_intro"
  case hb => exact arity5 fun _ _ _ _ _ => rfl
  case body =>
  intro c K hK
  refine' X.expr rfl ?_
  refine' Ex.call (needw_H b x mx ln .none 1 1 1 1 1 1) ?ha ?Sp ?hn ?hk ?hg ?hl ?hp
  walk_at "h_call"
  case hp =>
  (dsimp only [List.cons_append, List.nil_append])
  refine' X.expr rfl ?_
  refine' Ex.call (reached_H b x mx ln .none 1 1 1 1 1 1 1 1 (Int.le_refl _) (Int.le_refl _) (Int.le_refl _)) ?ha ?Sp ?hn ?hk ?hg ?hl ?hp
  walk_at "h_call"
  case hp =>
  intro d
  (dsimp only [List.cons_append, List.nil_append])
  refine' X.iteF (Ts.to ?xt3 ?xe3) ?xk3
  case xt3 => walk_at "h_ts"
  case xe3 => exact hm0
  case xk3 =>
  refine' X.nilT ?_
  refine' X.expr rfl ?_
  refine' Ex.call (tella_H b x mx ln .none 1 1 1 1 1 1 1 1) ?ha ?Sp ?hn ?hk ?hg ?hl ?hp
  walk_at "h_call"
  case hp =>
  (dsimp only [List.cons_append, List.nil_append])
  refine' X.expr rfl ?_
  refine' Ex.call (textin0_H b x cl mx ln cr room 1 1 1 G cs hg hr hz) ?ha ?Sp ?hn ?hk ?hg ?hl ?hp
  walk_at "h_call"
  case hp =>
  intro gs ge A G' B e1 e2 e3 e4
  (dsimp only [List.cons_append, List.nil_append])
  refine' X.iteF (Ts.to ?xt4 ?xe4) ?xk4
  case xt4 => walk_at "h_ts"
  case xe4 => exact rfl
  case xk4 =>
  refine' X.nilT ?_
  refine' X.expr rfl ?_
  refine' Ex.meth (hi) ?ho ?hm ?ha ?Sp ?hns ?hno ?h1 ?h2 ?h3 ?hk ?hl ?he ?hp
  walk_at "h_meth"
  case hp =>
  (dsimp only [List.cons_append, List.nil_append])
  refine' X.expr rfl ?_
  refine' Ex.call (hungi_H b x mx ln .none 1 1 (1 + cs.length) 1 1 1 1 cs.length false) ?ha ?Sp ?hn ?hk ?hg ?hl ?hp
  walk_at "h_call"
  case hp =>
  (dsimp only [List.cons_append, List.nil_append])
  refine' X.expr rfl ?_
  refine' Ex.call (tellb_H b x mx ln .none 1 1 (1 + cs.length) 1 1 1 1 (1 + cs.length) 0) ?ha ?Sp ?hn ?hk ?hg ?hl ?hp
  walk_at "h_call"
  case hp =>
  (dsimp only [List.cons_append, List.nil_append])
  refine' X.finF ?S (hK gs ge A G' B e1 e2 e3 e4)
  case S => walk_at "h_split"
theorem insat0_H (b x cl mx rd ln cr : Addr) (room : Int) (G cs : List Int) (hg : room = G.length) (hr : room ≤ 100) (hz : cs.length ≤ 100) (hn : cs ≠ []) :
    HSpec 5 112 [.ref b, .int 1 0, .ref cr] (buf0 b x mx ln 1 1 1 1 1 1 :: (x, .inst 422 (gapF cl room 0 room)) :: (cl, .list (iv G)) :: (mx, .inst 567 (mksF rd)) :: (rd, .idict []) :: (ln, .list []) :: [(cr, .list (iv cs))]) fun K => ∀ (gs ge : Int) (A G' B : List Int), gs = A.length → ge = A.length + G'.length → A ++ B = cs → A.length + G'.length + B.length ≤ 1000 →
      K .none (buf0 b x mx ln 1 1 (1 + cs.length) (1 + 1) (1 + 1) 1 :: (x, .inst 422 (gapF cl room gs ge)) :: (cl, .list (iv (A ++ G' ++ B))) :: (mx, .inst 567 (mksF rd)) :: (rd, .idict []) :: (ln, .list []) :: [(cr, .list (iv cs))]) := by
  have hp := put0_H b x cl mx rd ln cr room G cs hg hr hz hn
  refine' HSpec.introC [sN "buffer", sN "place", sN "codes", sN "before_markers"] [] [.bool false] (fun _ => []) (fun _ => []) ?ho ?hcd ?hb ?ml ?hn ?hn2 ?hn3 ?hn4 ?hcs ?hca ?hcl ?hco ?hgen ?hk ?body
  case ho => (intro w; k_is)
  case hcd => (intro w; k_is)
  case hb => (intro w s vs' X h; obtain ⟨_, _, _, rfl⟩ := len3 (Nat.succ.inj h); exact binds_K X rfl (by k_is) rfl rfl rfl)
  case ml => exact .arg (.arg (.arg (.arg (.nil))))
  case hn => rfl
  case hn2 => exact (by decide +kernel : [sN "buffer", sN "place", sN "codes", sN "before_markers"].Nodup)
  case hn3 => decide +kernel
  case hn4 => decide +kernel
  case hcs => exact fun _ => rfl
  case hca => exact fun n => cells0 (f := fun x => List.lookup x _)
  case hcl => exact fun _ => .nil
  case hco => rfl
  case hgen => rfl
  case hk => rfl
  case body =>
  intro c' K n _ hK
  (dsimp only [List.nil_append])
  refine' X.expr rfl ?_
  refine' Ex.call (hp) ?ha ?Sp ?hn ?hk ?hg ?hl ?hp
  walk_at "h_call"
  case hp =>
  intro gs ge A G' B e1 e2 e3 e4
  refine' X.finF ?S (hK gs ge A G' B e1 e2 e3 e4)
  case S => walk_at "h_split"
theorem setmk_H (b x cl mx rd ln p : Addr) (pt bv zv nk ck sv room gs ge i pl : Int) (adv : Bool) (vs : List Value) (kvs : List (Int × Value)) (hz : vs.length ≤ 1000) (hk : Nat.ble kvs.length 1000 = true) (h0 : 1 ≤ pl) (h1 : pl ≤ vs.length - ge + gs + 1) :
    HSpec 4 689 [.ref p, .ref b, .int pl 0] ((p, .inst 499 (markF i adv .none 0)) :: buf0 b x mx ln pt bv zv nk ck sv :: (x, .inst 422 (gapF cl room gs ge)) :: (cl, .list vs) :: (mx, .inst 567 (mksF rd)) :: [(rd, .idict kvs)]) fun K =>
      K .none ((p, .inst 499 (markF i adv (.ref b) pl)) :: buf0 b x mx ln pt bv zv nk ck sv :: (x, .inst 422 (gapF cl room gs ge)) :: (cl, .list vs) :: (mx, .inst 567 (mksF rd)) :: [(rd, .idict (stored kvs i (.ref p)))]) := by
  have hp := put_H mx rd p kvs i 0 pl adv (.ref b) hk
  have ev : min (max pl 1) ((vs.length : Int) - ge + gs + 1) = pl := by rw [Int.max_eq_left h0, Int.min_eq_left h1]
  refine' HSpec.intro [sN "marker", sN "buffer", sN "place"] [] ?ho ?hcd ?hb ?ml ?hn ?hco ?hgen ?hk ?hcell ?body
  walk_at "h_intro"
  case hb => exact arity3 fun _ _ _ => rfl
  case body =>
  intro c K hK
  refine' X.iteF (Ts.to (Ts.and (p := false) (q := false) (Ts.cmp ?t1 Ev.none Cmp.isnotN rfl) (fun h => absurd h Bool.false_ne_true)) rfl) ?k2
  case t1 => walk_at "h_ev"
  case k2 =>
  refine' X.nilT ?_
  walk_at "h_setattr"
  case k =>
  refine' X.iteF (Ts.to ?xt5 ?xe5) ?xk5
  case xt5 => walk_at "h_ts"
  case xe5 => exact rfl
  case xk5 =>
  refine' X.expr rfl (Ex.meth hp ?ho ?hm (Evs.cons rfl ?a1 (Evs.cons rfl (Ev.toI (Ev.min (Ev.max ?a2 Ev.int rfl rfl ?g1 ?g2) (Ev.add (Ev.meth (bsize_H b x cl mx ln .none pt bv zv nk ck sv room gs ge vs hz) ?ho2 ?hm2 ?ha2 ?Sp2 ?hns2 ?hno2 ?h12 ?h22 ?h32 ?hk2 ?hl2 ?he2) Ev.int) rfl rfl ?g3 ?g4) ev) .nil)) ?Sp ?hns ?hno ?h1 ?h2 ?h3 ?hk ?hl ?he ?hp)
  case ho => walk_at "h_ev"
  case hm => walk_at "h_mem"
  case a1 => walk_at "h_ev"
  case a2 => walk_at "h_ev"
  case g1 => decide +kernel
  case g2 => k_is
  case g3 => decide +kernel
  case g4 => k_is
  case ho2 => walk_at "h_ev"
  case hm2 => walk_at "h_mem"
  case ha2 => walk_at "h_evs"
  case Sp2 => walk_at "h_split"
  case hns2 => rfl
  case hno2 => decide +kernel
  case h12 => k_is
  case h22 => k_is
  case h32 => k_is
  case hk2 => k_is
  case hl2 => rfl
  case he2 => exact fun _ => rfl
  case Sp => walk_at "h_split"
  case hns => rfl
  case hno => decide +kernel
  case h1 => k_is
  case h2 => k_is
  case h3 => k_is
  case hk => k_is
  case hl => rfl
  case he => exact fun _ => rfl
  case hp =>
  (dsimp only [List.cons_append, List.nil_append])
  refine' X.nilT ?_
  refine' X.finF ?S (hK)
  case S => walk_at "h_split"
end
section
open PySem PySem.W PySem.Calls PyProof.Rows PySem.Spec
set_option maxHeartbeats 1000000
theorem gotog_H (b x mx ln : Addr) (un : Value) (pt bv zv nk ck sv pl : Int) : HSpec 1 642 [.ref b, .int pl 0] [(b, .inst 673 (bufF x mx ln un pt bv zv nk ck sv))] fun K => K (.int (min (max pl bv) zv) 0) [(b, .inst 673 (bufF x mx ln un (min (max pl bv) zv) bv zv nk ck sv))] := by
  refine' HSpec.intro [sN "self", sN "place"] [] ?ho ?hcd ?hb ?ml ?hn ?hco ?hgen ?hk ?hcell ?body
  walk_at "h_intro"
  case hb => exact arity2 fun _ _ => rfl
  case body =>
  intro c K hK
  walk_at "h_setattr"
  case k =>
  refine' X.ret ?h ?S (hK)
  case h => walk_at "h_ev"
  case S => walk_at "h_split"
theorem narrow_H (b x cl mx ln : Addr) (un : Value) (pt bv zv nk ck sv room gs ge lo hi : Int) (vs : List Value) (hz : vs.length ≤ 1000) (h0 : 1 ≤ lo) (h1 : lo ≤ hi) (h2 : hi ≤ vs.length - ge + gs + 1) :
    HSpec 3 682 [.ref b, .int lo 0, .int hi 0] [(b, .inst 673 (bufF x mx ln un pt bv zv nk ck sv)), (x, .inst 422 (gapF cl room gs ge)), (cl, .list vs)] fun K => ∀ pt', K .none [(b, .inst 673 (bufF x mx ln un pt' lo hi nk ck sv)), (x, .inst 422 (gapF cl room gs ge)), (cl, .list vs)] := by
  have hs := bsize_H b x cl mx ln un pt bv zv nk ck sv room gs ge vs hz
  have hg := gotog_H b x mx ln un pt lo hi nk ck sv pt
  refine' HSpec.intro [sN "buffer", sN "start", sN "end"] [sN "low", sN "high"] ?ho ?hcd ?hb ?ml ?hn ?hco ?hgen ?hk ?hcell ?body
  walk_at "h_intro"
  case hb => exact arity3 fun _ _ _ => rfl
  case body =>
  intro c K hK
  refine' X.swap [sN "low", sN "high"] (Exs.evs ?ev ⟨?z, _, ?sn, ?k⟩) ?hs ?hw
  case ev => walk_at "h_evs"
  case z => exact Nat.le_of_ble_eq_true rfl
  case sn => walk_at "h_setns2"
  case hs => exact fun _ => rfl
  case hw => with_unfolding_all rfl
  case k =>
  rw [Int.max_eq_right h1, Int.min_eq_left h1]
  refine' X.iteF (Ts.to (Ts.or (p := false) (q := false) (Ts.to (Ts.cmp ?a1 Ev.int Cmp.lt rfl) ?p1) fun _ => Ts.to (Ts.or (p := false) (q := false) (Ts.to (Ts.cmp ?a2 (Ev.add (Ev.meth hs ?ho2 ?hm2 ?ha2 ?Sp2 ?hns2 ?hno2 ?h12 ?h22 ?h32 ?hk2 ?hl2 ?he2) Ev.int) Cmp.gt rfl) ?p2) fun _ => Ts.orNil) rfl) rfl) ?k2
  case a1 => walk_at "h_ev"
  case p1 => exact decide_eq_false (Int.not_lt.mpr h0)
  case a2 => walk_at "h_ev"
  case ho2 => walk_at "h_ev"
  case hm2 => walk_at "h_mem"
  case ha2 => walk_at "h_evs"
  case Sp2 => walk_at "h_split"
  case hns2 => rfl
  case hno2 => decide +kernel
  case h12 => k_is
  case h22 => k_is
  case h32 => k_is
  case hk2 => k_is
  case hl2 => rfl
  case he2 => exact fun _ => rfl
  case p2 => exact decide_eq_false (Int.not_lt.mpr h2)
  case k2 =>
  refine' X.nilT ?_
  refine' X.assignU (Ex.tup (vs := [.int lo 0, .int hi 0]) ?ev3 rfl ?kt) ?hs3 ?hw3
  case ev3 => walk_at "h_evs"
  case hs3 => exact fun _ => rfl
  case hw3 => with_unfolding_all rfl
  case kt =>
  intro d
  refine' ⟨_, _, Asg.tupX (vs := [.int lo 0, .int hi 0]) ?m3 (.attr ?q1 (.attr ?q2 .nil)), ?k3⟩
  case m3 => walk_at "h_mem"
  case q1 => (refine' Asg.attr ?ht ?hR ?hf ?hz ?h1 ?h2 ?h3 ?h4; walk_at "h_setattrR")
  case q2 => (refine' Asg.attr ?htx ?hRx ?hfx ?hzx ?h1x ?h2x ?h3x ?h4x; (case htx => walk_at "h_ev"); (case hRx => walk_at "h_rep"); (case hfx => walk_at "h_setf"); (case hzx => rfl); (case h1x => k_is); (case h2x => k_is); (case h3x => k_is); (case h4x => k_is))
  case k3 =>
  refine' X.expr rfl ?_
  refine' Ex.meth (hg) ?ho ?hm ?ha ?Sp ?hns ?hno ?h1 ?h2 ?h3 ?hk ?hl ?he ?hp
  walk_at "h_meth"
  case hp =>
  (dsimp only [List.cons_append, List.nil_append])
  refine' X.finF ?S (hK _)
  case S => walk_at "h_split"
theorem bufinit_H (b : Addr) (room : Int) (h0 : 0 ≤ room) (h1 : room ≤ 100) :
    HSpec 4 586 [.ref b, .int 1 0, .str (sN "one") 0, .int room 0] [(b, .inst 673 [])] fun K => ∀ x cl mx rd ln, K .none (buf0 b x mx ln 1 1 1 1 1 1 :: (x, .inst 422 (gapF cl room 0 room)) :: (cl, .list (iv (List.replicate room.toNat 0))) :: (mx, .inst 567 (mksF rd)) :: (rd, .idict []) :: [(ln, .list [])]) := by
  refine' HSpec.introC [sN "self", sN "number", sN "name", sN "room"] [] [] (fun _ => []) (fun _ => []) ?ho ?hcd ?hb ?ml ?hn ?hn2 ?hn3 ?hn4 ?hcs ?hca ?hcl ?hco ?hgen ?hk ?body
  case ho => (intro w; k_is)
  case hcd => (intro w; k_is)
  case hb => (intro w s vs' X h; obtain ⟨_, _, _, _, rfl⟩ := len4 h; exact binds_K X rfl (by k_is) rfl rfl rfl)
  case ml => exact .arg (.arg (.arg (.arg (.nil))))
  case hn => rfl
  case hn2 => exact (by decide +kernel : [sN "self", sN "number", sN "name", sN "room"].Nodup)
  case hn3 => decide +kernel
  case hn4 => decide +kernel
  case hcs => exact fun _ => rfl
  case hca => exact fun n => cells0 (f := fun x => List.lookup x _)
  case hcl => exact fun _ => .nil
  case hco => rfl
  case hgen => rfl
  case hk => rfl
  case body =>
  intro c' K n _ hK
  (dsimp only [List.nil_append])
  walk_at "h_newattr"
  case k =>
  walk_at "h_newattr"
  case k =>
  refine' X.newattr rfl (Ex.new (fI := 349) rfl ?hn ?hk ?hg ?hm ?hi ?hf (Exs.cons rfl (Ex.list .nil rfl fun cr => Exs.evs ?ev fun x => ⟨1, [(cr, .list [])], _, _, gapinit_H x cr room h0 h1, rfl, ?Sp, fun cl => ⟨rfl, ?kk⟩⟩)))
  walk_at "h_new"
  case ev => walk_at "h_evs"
  case Sp => walk_at "h_split"
  case kk =>
  (dsimp only [List.cons_append, List.nil_append])
  walk_at "h_newa"
  case k =>
  refine' X.newattr rfl (Ex.new0 (fI := 515) ?hn2 ?hk2 ?hg2 ?hm2 ?hi2 ?hf2 fun mx => ⟨1, [], _, _, mksinit_H mx, rfl, .nil, fun rd => ⟨rfl, ?kk2⟩⟩)
  case hn2 => k_is
  case hk2 => k_is
  case hg2 => decide +kernel
  case hm2 => k_is
  case hi2 => k_is
  case hf2 => k_is
  case kk2 =>
  (dsimp only [List.cons_append, List.nil_append])
  walk_at "h_newa"
  case k =>
  walk_at "h_newattr"
  case k =>
  walk_at "h_newattr"
  case k =>
  walk_at "h_newattr"
  case k =>
  walk_at "h_newattr"
  case k =>
  walk_at "h_newattr"
  case k =>
  walk_at "h_newattr"
  case k =>
  walk_at "h_newattr"
  case k =>
  walk_at "h_newattr"
  case k =>
  walk_at "h_newattr"
  case k =>
  refine' X.newattr rfl (Ex.list .nil rfl fun ln => ?kk3)
  case kk3 =>
  walk_at "h_newa"
  case k =>
  walk_at "h_newattr"
  case k =>
  walk_at "h_newattr"
  case k =>
  walk_at "h_newattr"
  case k =>
  walk_at "h_newattr"
  case k =>
  walk_at "h_newattr"
  case k =>
  walk_at "h_newattr"
  case k =>
  refine' X.finF ?S (hK x cl mx rd ln)
  case S => walk_at "h_split"
end
section
open PySem PySem.W PySem.Calls PyProof.Rows PySem.Spec
set_option maxHeartbeats 1000000
inductive TPs (T : ALed) : List Value → List (Int × Bool) → Prop
  | nil : TPs T [] []
  | cons {q p a vs xs} : (q, AO.tup [.int p 0, .bool a]) ∈ T → TPs T vs xs → TPs T (.ref q :: vs) ((p, a) :: xs)
theorem TPs.at {T : ALed} : ∀ {vs : List Value} {xs dn : List (Int × Bool)} {p : Int} {a : Bool} {td : List (Int × Bool)}, TPs T vs xs → xs = dn ++ (p, a) :: td → ∃ q, vs[dn.length]? = some (.ref q) ∧ (q, AO.tup [.int p 0, .bool a]) ∈ T
  | _, _, [], _, _, _, .cons h _, rfl => ⟨_, rfl, h⟩
  | _, _, _ :: dn, _, _, _, .cons _ h, e => by
    obtain ⟨q, g1, g2⟩ := h.at (List.cons.inj e).2
    exact ⟨q, g1, g2⟩
  | _, _, _ :: _, _, _, _, .nil, e => nomatch e
theorem TPs.len {T : ALed} {vs : List Value} {xs : List (Int × Bool)} (h : TPs T vs xs) : vs.length = xs.length := by
  induction h with
  | nil => rfl
  | cons _ _ ih => rw [List.length_cons, List.length_cons, ih]
inductive BnAt (T : ALed) : Value → Option (Int × Int) → Prop
  | none : BnAt T .none none
  | some {q lo hi} : (q, AO.tup [.int lo 0, .int hi 0]) ∈ T → BnAt T (.ref q) (some (lo, hi))
inductive MsOf : List MQ → List (Int × Bool) → Prop
  | nil : MsOf [] []
  | snoc {ms xs p y a} : MsOf ms xs → MsOf (ms ++ [⟨p, ms.length, a, y⟩]) (xs ++ [(y, a)])
theorem MsOf.len {ms : List MQ} {xs : List (Int × Bool)} (h : MsOf ms xs) : ms.length = xs.length := by
  induction h with
  | nil => rfl
  | snoc _ ih => rw [len_snoc, len_snoc, ih]
theorem MsOf.lt {ms : List MQ} {xs : List (Int × Bool)} (h : MsOf ms xs) : ∀ m ∈ ms, m.i < ms.length := by
  induction h with
  | nil => intro m hm; cases hm
  | snoc _ ih =>
    intro m hm
    rw [len_snoc]
    rcases List.mem_append.mp hm with hm | hm
    · have := ih m hm; lia
    · rw [List.mem_singleton.mp hm]; show ((_ : Nat) : Int) < _; lia
theorem MsOf.asc {ms : List MQ} {xs : List (Int × Bool)} (h : MsOf ms xs) : MsAsc ms := by
  unfold MsAsc
  induction h with
  | nil => exact .nil
  | snoc h ih =>
    rw [List.map_append, List.pairwise_append]
    refine ⟨ih, List.pairwise_singleton _ _, fun a ha b hb => ?_⟩
    obtain ⟨m, hm, rfl⟩ := List.mem_map.mp ha
    rw [List.mem_singleton.mp hb]
    exact h.lt m hm
theorem MsOf.stored {ms : List MQ} {xs : List (Int × Bool)} (h : MsOf ms xs) (p : Addr) (a : Bool) (y : Int) : stored (kvM ms) ms.length (.ref p) = kvM (ms ++ [⟨p, ms.length, a, y⟩]) := by
  rw [stored_absent, kvM, kvM, List.map_append]; rfl
  unfold valueAt
  rw [Option.map_eq_none_iff, List.find?_eq_none]
  intro x hx
  obtain ⟨m, hm, rfl⟩ := List.mem_map.mp hx
  have := h.lt m hm
  rw [decide_eq_true_eq]
  show ¬ m.i = _
  lia
theorem range_cons {n m : Nat} {v : Value} {r : List Value} (h : v :: r = (rangeVs n).drop m) : v = .int m 0 ∧ r = (rangeVs n).drop (m + 1) ∧ m < n := by
  have hm : m < n := by
    have := congrArg List.length h
    rw [List.length_cons, List.length_drop, rangeVs, List.length_map, List.length_range] at this
    lia
  rw [List.drop_eq_getElem_cons (by rw [rangeVs, List.length_map, List.length_range]; exact hm)] at h
  obtain ⟨h1, h2⟩ := List.cons.inj h
  exact ⟨by rw [h1]; unfold rangeVs; rw [List.getElem_map, List.getElem_range], h2, hm⟩
end
section
open PySem PySem.W PySem.Calls PyProof.Rows PySem.Spec
set_option maxHeartbeats 1000000
noncomputable abbrev lbLo (td b om sg mkl : Addr) (room ph : Int) (bn nv : Option Value) : Lo := [(sN "own_told", some (.ref td)), (sN "room", some (.int room 0)), (sN "signs", some (.ref sg)), (sN "own_point_here", some (.int ph 0)), (sN "marks", some (.ref mkl)), (sN "bounds", bn), (sN "own_buffer", some (.ref b)), (sN "own_marks", some (.ref om)), (sN "number", nv)]
noncomputable abbrev lbL (b x cl mx rd ln om : Addr) (room pt bv zv : Int) (A G B : List Int) (ms : List MQ) (T : ALed) : ALed := buf0 b x mx ln pt bv zv (1 + 1) (1 + 1) 1 :: (x, .inst 422 (gapF cl room A.length (A.length + G.length))) :: (cl, .list (iv (A ++ G ++ B))) :: (mx, .inst 567 (mksF rd)) :: (rd, .idict (kvM ms)) :: (ln, .list []) :: (om, .list (ms.map fun m => .ref m.p)) :: (ms.map (mkA (.ref b)) ++ T)
inductive LbJ (td b om sg mkl x cl mx rd ln : Addr) (room ph : Int) (bnV : Value) (A G B signs : List Int) (mvs : List Value) (marks : List (Int × Bool)) (T : ALed) (r : List Value) (lo : Lo) (led : ALed) : Prop
  | mk (nv : Option Value) (ms : List MQ) (dn tl : List (Int × Bool)) (f0 : lo = lbLo td b om sg mkl room ph (some bnV) nv) (f1 : marks = dn ++ tl) (f2 : r = (rangeVs mvs.length).drop dn.length) (f3 : MsOf ms dn) (f4 : led = lbL b x cl mx rd ln om room 1 1 (1 + signs.length) A G B ms T)
theorem lbuf_H (td sg mkl : Addr) (room ph : Int) (signs : List Int) (mvs : List Value) (marks : List (Int × Bool)) (T : ALed) (bnV : Value) (bn : Option (Int × Int)) (htd : (td, AO.tup [.int room 0, .ref sg, .int ph 0, .ref mkl, bnV]) ∈ T) (hmk : (mkl, AO.list mvs) ∈ T) (hms : TPs T mvs marks) (hbn : BnAt T bnV bn)
    (h0 : 0 ≤ room) (h1 : room ≤ 100) (hs : signs ≠ []) (hz : signs.length ≤ 100) (hp : ∀ m ∈ marks, 1 ≤ m.1 ∧ m.1 ≤ signs.length + 1) (hml : marks.length ≤ 20) (hb : ∀ lo hi, bn = some (lo, hi) → 1 ≤ lo ∧ lo ≤ hi ∧ hi ≤ signs.length + 1) :
    HSpec 6 769 [.ref td] ((sg, .list (iv signs)) :: T) fun K => ∀ r b x cl mx rd ln om pt A G B ms, A ++ B = signs → A.length + G.length + B.length ≤ 1000 → MsOf ms marks →
      K (.ref r) ((r, .tup [.ref b, .ref om]) :: lbL b x cl mx rd ln om room pt (match bn with | none => 1 | some p => p.1) (match bn with | none => 1 + signs.length | some p => p.2) A G B ms T) := by
  have hmv : mvs.length = marks.length := hms.len
  have hmz : mvs.length < 2 ^ 62 := by lia
  have hmz2 : mvs.length ≤ 1000 := by lia
  refine' HSpec.intro [sN "own_told"] [sN "room", sN "signs", sN "own_point_here", sN "marks", sN "bounds", sN "own_buffer", sN "own_marks", sN "number"] ?ho ?hcd ?hb ?ml ?hn ?hco ?hgen ?hk ?hcell ?body
  walk_at "h_intro"
  case hb => exact arity1 fun _ => rfl
  case body =>
  intro c K hK
  refine' X.assignT (Ex.ev ?ev ⟨_, Asg.tup (vs := [.int room 0, .ref sg, .int ph 0, .ref mkl, bnV]) ?m ?s, ?k⟩) ?hs ?hw
  case ev => walk_at "h_ev"
  case m => exact .tail _ htd
  case s => walk_at "h_setts"
  case hs => exact fun _ => rfl
  case hw => with_unfolding_all rfl
  case k =>
  refine' X.assignE rfl (Ex.new (fI := 586) rfl ?hn ?hk ?hg ?hm ?hi ?hf (Exs.evs (.cons rfl Ev.int (.cons rfl Ev.str (.cons rfl ?a3 .nil))) fun b => ⟨4, [], _, _, bufinit_H b room h0 h1, rfl, .nil, fun x cl mx rd ln => ⟨rfl, _, ?sl, ?k2⟩⟩))
  walk_at "h_new"
  case a3 => walk_at "h_ev"
  case sl => walk_at "h_setl"
  case k2 =>
  (dsimp only [List.cons_append, List.nil_append])
  refine' X.expr rfl ?_
  refine' Ex.call (insat0_H b x cl mx rd ln sg room (List.replicate room.toNat 0) signs (by rw [List.length_replicate]; lia) h1 hz hs) ?ha ?Sp ?hn ?hk ?hg ?hl ?hp
  walk_at "h_call"
  case hp =>
  intro gs ge A G B e1 e2 e3 e4
  subst e1 e2
  (dsimp only [List.cons_append, List.nil_append])
  refine' X.assignE rfl (Ex.list .nil rfl fun om => ⟨_, ?sl2, ?k3⟩)
  case sl2 => walk_at "h_setl"
  case k3 =>
  have hil : (iv (A ++ G ++ B)).length = A.length + G.length + B.length := by rw [List.length_map, List.length_append, List.length_append]
  have hsl : (signs.length : Int) = A.length + B.length := by rw [← e3, List.length_append]; lia
  refine' X.drop (led1 := buf0 b x mx ln 1 1 (1 + signs.length) (1 + 1) (1 + 1) 1 :: (x, .inst 422 (gapF cl room A.length (A.length + G.length))) :: (cl, .list (iv (A ++ G ++ B))) :: (mx, .inst 567 (mksF rd)) :: (rd, .idict []) :: (ln, .list []) :: (om, .list []) :: T) ?S1 ?k4
  case S1 => walk_at "h_split"
  case k4 =>
  refine' X.forR (LbJ td b om sg mkl x cl mx rd ln room ph bnV A G B signs mvs marks T) rfl ?hn2 ?hg2 (Ex.ev ?e2 ⟨mvs.length, 0, rfl, hmz2, none, [], [], marks, rfl, rfl, rfl, .nil, rfl⟩) ?done ?turn (fun _ => rfl)
  case hn2 => k_is
  case hg2 => decide +kernel
  case e2 => walk_at "h_ev"
  case turn =>
    rintro I it v r lo led ⟨nv, ms, dn, tl, rfl, e5, e6, hM, rfl⟩
    obtain ⟨rfl, er, hlt⟩ := range_cons e6
    cases tl with
    | nil => rw [hmv, e5, List.append_nil] at hlt; exact absurd hlt (Nat.lt_irrefl _)
    | cons pa tl =>
      obtain ⟨y, a⟩ := pa
      obtain ⟨qm, hq1, hq2⟩ := hms.at e5
      have hq1' : mvs[((dn.length : Nat) : Int).toNat]? = some (.ref qm) := by rw [Int.toNat_natCast]; exact hq1
      have hk0 : (0 : Int) ≤ (dn.length : Nat) := Int.natCast_nonneg _
      have hyb := hp (y, a) (by rw [e5]; exact List.mem_append_right _ (.head _))
      have hml9 : (ms.map fun m => Value.ref m.p).length ≤ 20 := by rw [List.length_map, hM.len]; rw [e5, List.length_append] at hml; lia
      have hkv : Nat.ble (kvM ms).length 1000 = true := Nat.ble_eq_true_of_le (by rw [List.length_map, hM.len]; rw [e5, List.length_append] at hml; lia)
      refine' ⟨_, ?sl3, ?k5⟩
      case sl3 => walk_at "h_setl"
      case k5 =>
      refine' X.expr rfl ?_
      walk_at "h_appendE"
      case he =>
      refine' Ex.new (fI := 475) rfl ?hn ?hk ?hg ?hm ?hi ?hf (Exs.evs (.cons rfl ?a1 (.cons rfl (Ev.t1 (v0 := .int y 0) (v1 := .bool a) (r := []) (Ev.item ?a2 ?a3 ?a4 hk0 hmz hq1') ?a5) .nil)) fun p => ⟨1, [], _, _, mkinit_H p dn.length a, rfl, .nil, ⟨rfl, _, _, ?R, Nat.le_trans hml9 (by decide), ?k6⟩⟩)
      walk_at "h_new"
      case a1 => walk_at "h_ev"
      case a2 => walk_at "h_ev"
      case a3 => walk_at "h_ev"
      case a4 => walk_at "h_mem"
      case a5 => walk_at "h_mem"
      case R => walk_at "h_rep"
      case k6 =>
      (dsimp only [List.cons_append, List.nil_append])
      have hg : ((ms.map fun m => Value.ref m.p) ++ [Value.ref p])[((dn.length : Nat) : Int).toNat]? = some (.ref p) := get_at (by rw [List.length_map, hM.len])
      have hgz : ((ms.map fun m => Value.ref m.p) ++ [Value.ref p]).length < 2 ^ 62 := by rw [len_snoc]; exact Nat.lt_of_le_of_lt (Nat.succ_le_succ hml9) (by decide)
      refine' X.expr rfl (Ex.call (setmk_H b x cl mx rd ln p 1 1 (1 + signs.length) (1 + 1) (1 + 1) 1 room A.length (A.length + G.length) dn.length y a (iv (A ++ G ++ B)) (kvM ms) (by lia) hkv hyb.1 (by rw [hil]; lia)) (.cons rfl (Ev.item ?b1 ?b2 ?b3 hk0 hgz hg) (.cons rfl ?b4 (.cons rfl (Ev.t0 (v0 := .int y 0) (r := [.bool a]) (Ev.item ?b5 ?b6 ?b7 hk0 hmz hq1') ?b8) .nil))) ?Sp ?hn9 ?hk9 ?hg9 ?hl9 ?hp9)
      case b1 => walk_at "h_ev"
      case b2 => walk_at "h_ev"
      case b3 => walk_at "h_mem"
      case b4 => walk_at "h_ev"
      case b5 => walk_at "h_ev"
      case b6 => walk_at "h_ev"
      case b7 => walk_at "h_mem"
      case b8 => walk_at "h_mem"
      case Sp => walk_at "h_split"
      case hn9 => k_is
      case hk9 => k_is
      case hg9 => decide +kernel
      case hl9 => rfl
      case hp9 =>
      (dsimp only [List.cons_append, List.nil_append])
      rw [← hM.len, hM.stored p a y]
      refine' X.tend (led5 := buf0 b x mx ln 1 1 (1 + signs.length) (1 + 1) (1 + 1) 1 :: (x, .inst 422 (gapF cl room A.length (A.length + G.length))) :: (cl, .list (iv (A ++ G ++ B))) :: (mx, .inst 567 (mksF rd)) :: (rd, .idict (kvM (ms ++ [⟨p, ms.length, a, y⟩]))) :: (ln, .list []) :: (om, .list ((ms.map fun m => .ref m.p) ++ [.ref p])) :: (ms.map (mkA (.ref b)) ++ ((p, .inst 499 (markF ms.length a (.ref b) y)) :: T))) ?S5 ?S6 ⟨_, ms ++ [MQ.mk p ms.length a y], dn ++ [(y, a)], tl, rfl, ?f1, ?f2, .snoc (p := p) hM, ?f3⟩
      case S5 => walk_at "h_split"
      case S6 => walk_at "h_split"
      case f1 => rw [e5, List.append_assoc]; rfl
      case f2 => rw [er, len_snoc]
      case f3 => rw [lbL, List.map_append, List.map_append, List.append_assoc (ms.map _)]; rfl
  case done =>
    rintro lo led ⟨nv, ms, dn, tl, rfl, e5, e6, hM, rfl⟩
    have e7 : tl = [] := by
      have := congrArg List.length e6
      rw [List.length_nil, List.length_drop, rangeVs, List.length_map, List.length_range, hmv, e5, List.length_append] at this
      exact List.eq_nil_of_length_eq_zero (by lia)
    subst e7
    rw [List.append_nil] at e5
    subst e5
    refine' X.expr rfl ?_
    refine' Ex.meth (gotog_H b x mx ln .none 1 1 (1 + signs.length) (1 + 1) (1 + 1) 1 ph) ?ho ?hm ?ha ?Sp ?hns ?hno ?h1 ?h2 ?h3 ?hk ?hl ?he ?hp
    walk_at "h_meth"
    case hp =>
    (dsimp only [List.cons_append, List.nil_append])
    cases hbn with
    | none =>
      refine' X.iteF (Ts.to ?xt1 ?xe1) ?xk1
      case xt1 => walk_at "h_ts"
      case xe1 => exact rfl
      case xk1 =>
      refine' X.nilT (X.retP (Ex.tup (vs := [.ref b, .ref om]) ?v1 rfl fun r => ⟨_, _, ?S2, hK r b x cl mx rd ln om _ A G B ms e3 e4 hM⟩))
      case v1 => walk_at "h_evs"
      case S2 => walk_at "h_split"
    | @some bq lo hi hq =>
      obtain ⟨c1, c2, c3⟩ := hb lo hi rfl
      refine' X.iteT (Ts.to ?xt2 ?xe2) ?xk2
      case xt2 => walk_at "h_ts"
      case xe2 => exact rfl
      case xk2 =>
      refine' X.expr rfl ?_
      refine' Ex.call (narrow_H b x cl mx ln .none _ 1 (1 + signs.length) (1 + 1) (1 + 1) 1 room A.length (A.length + G.length) lo hi (iv (A ++ G ++ B)) (by lia) c1 c2 (by rw [hil]; lia)) ?ha ?Sp ?hn ?hk ?hg ?hl ?hp
      walk_at "h_call"
      case hp =>
      intro pt'
      (dsimp only [List.cons_append, List.nil_append])
      refine' X.nilT (X.retP (Ex.tup (vs := [.ref b, .ref om]) ?v2 rfl fun r => ⟨_, _, ?S3, hK r b x cl mx rd ln om pt' A G B ms e3 e4 hM⟩))
      case v2 => walk_at "h_evs"
      case S3 => walk_at "h_split"
end
section
open PySem PySem.W PySem.Calls PyProof.Rows PySem.Spec PyProof.V PyProof
theorem TPs.mono {T T' : ALed} (hs : ∀ p ∈ T, p ∈ T') {vs : List Value} {xs : List (Int × Bool)} (h : TPs T vs xs) : TPs T' vs xs := by
  induction h with
  | nil => exact .nil
  | cons h _ ih => exact .cons (hs _ h) ih
theorem TPs.app {T : ALed} {vs vs' : List Value} {xs xs' : List (Int × Bool)} (h : TPs T vs xs) (h' : TPs T vs' xs') : TPs T (vs ++ vs') (xs ++ xs') := by
  induction h with
  | nil => exact h'
  | cons h _ ih => exact .cons h ih
theorem law_in {w : World} {lev : Nat} {name : Str} {body : List Stmt} {scope : Scope} {L fa n a : Addr} {cd : Value} {s₁ : Shared} {h₁ : Heap} {tk₁ : Nat} {mean : ExcName → Option Value} {mg mb m : Str → Option Value} {ob : Obj} {Q : Flow → Shared → Prop} {E : Value → Shared → Prop} (x y : Str) (os : List Str) {lo : Lo}
    (KX : (Mine.fr0.heap_1 w.params).In s₁.heap) (T : Top VW LO mean mg mb s₁.heap) (K0 : Below callerA s₁.heap [] s₁.heap) (F : Fr s₁.heap L h₁ m) (N : News s₁.heap L h₁ [(n, ob)]) (hd : ob.data = .cell none) {ws : List Value} {ns : List Int} (hL : s₁.heap.IsList a ws.toArray) (hI : IntsAre ws ns) (hm : m x = some (.ref a)) (ml : MkLo [x] [.ref a] os lo) (hn : namesOk ⟨name ++ ".<locals>.", scope, some fa, cd⟩ (x :: os) = true) (hk : scope.kind = .function) (hlev : lev ≤ 100)
    (hcs : cellsFrom (L + 1) scope.names [] = [(y, n)]) (hX : ∀ (n : Addr) (c : Cx), c.cl = [(y, n)] → c.g.IsList a ws.toArray → VsEq (iv ns) ws → X ⟨name ++ ".<locals>.", scope, some fa, cd⟩ lev c (Fl.fn fun v _ => v = .bool true) lo [(n, .cell none)] body)
    (hQ : ∀ h tk m', Fr s₁.heap L h m' → Q (.ret (.bool true)) { s₁ with heap := h, toks := tk }) :
    wpAny (model PG w) (callerA.deeper (envOfC name scope L fa cd)) (execs body (envOfC name scope L fa cd)) Q E { s₁ with heap := h₁, toks := tk₁ } := by
  let c : Cx := ⟨w, s₁.heap, L, cellsFrom (L + 1) scope.names [], callerA, s₁.heap, [], mean, mg, mb, (callerA.deeper (envOfC name scope L fa cd)).depth, (callerA.deeper (envOfC name scope L fa cd)).units, (callerA.deeper (envOfC name scope L fa cd)).guards, s₁, some L, envOfC name scope L fa cd⟩
  obtain ⟨hnd, hall⟩ := Bool.and_eq_true_iff.mp hn
  have hnd := of_decide_eq_true hnd
  have ok : Ok ⟨name ++ ".<locals>.", scope, some fa, cd⟩ lev c := ⟨KX, T, K0, hk, Nat.lt_of_le_of_lt (Nat.add_le_add_left hlev _) (by show (1 + claimMargin + 1) + 100 < recursionLimit; decide +kernel), Nat.lt_of_le_of_lt (Nat.add_le_add_left (Nat.mul_le_mul_left 20 hlev) _) (by show (4 + 3) + 20 * 100 < cLine; decide +kernel), fun _ => ⟨rfl, hk⟩⟩
  have S : St ⟨name ++ ".<locals>.", scope, some fa, cd⟩ c lo [(n, .cell none)] { s₁ with heap := h₁, toks := tk₁ } := by
    refine ⟨Sim.of s₁ _ _, ⟨by rw [ml.names]; exact hnd, by rw [ml.names]; exact List.all_eq_true.mp hall⟩, m, [(n, ob)], F, fun z v hy => ?_, .cons (.cellN hd) .nil, N, by simp⟩
    obtain ⟨v', h1, h2⟩ := ml.mem (.cons (.refl (.ref a)) .nil) hy
    obtain ⟨rfl, rfl⟩ : z = x ∧ v' = .ref a := by simpa using h1
    exact ⟨_, hm, h2⟩
  refine wpAny_mono (hX n c hcs hL (vsEq_ints hI) ok _ S E) (fun f s' hf => ?_) fun _ _ x => x
  cases f with
  | next => obtain ⟨_, _, _, k⟩ := hf; cases k
  | brk => obtain ⟨_, _, _, k⟩ := hf; exact k.elim
  | cont => obtain ⟨_, _, _, k⟩ := hf; exact k.elim
  | ret v' =>
    obtain ⟨v, lo', led', hv, ⟨sm, _, m', _, F', _⟩, rfl⟩ := hf
    cases hv.bool_inv
    have e : s' = { s₁ with heap := s'.heap, toks := s'.toks } := sm
    rw [e]
    exact hQ _ _ m' F'
noncomputable abbrev lwLo (a : Addr) (size room sg ph mk at_ adv third second first fourth one other bounds buffer marks states edit further again : Option Value) : Lo := [(sN "script", some (.ref a)), (sN "size", size), (sN "room", room), (sN "signs", sg), (sN "own_point_here", ph), (sN "marks", mk), (sN "at", at_), (sN "advances", adv), (sN "third", third), (sN "second", second), (sN "first", first), (sN "fourth", fourth), (sN "one", one), (sN "other", other), (sN "bounds", bounds), (sN "own_buffer", buffer), (sN "own_marks", marks), (sN "states", states), (sN "edit", edit), (sN "further", further), (sN "own_again", again)]
noncomputable abbrev lwK (dk il n : Addr) (k : Int) (zs : List Int) (T : ALed) : ALed := (dk, .list [.ref il, .int k 0]) :: (il, .list (iv zs)) :: (n, .cell (some (.ref dk))) :: T
structure LwE (T : ALed) (e c : Addr) (st nd : Int) (cs : List Int) (ah : Bool) : Prop where
  tup : (e, edT st nd c ah) ∈ T
  ls : (c, AO.list (iv cs)) ∈ T
  ne : st = nd → cs ≠ []
  len : cs.length ≤ 3
  le : st ≤ nd
theorem LwE.mono {T T' : ALed} (hs : ∀ p ∈ T, p ∈ T') {e c : Addr} {st nd : Int} {cs : List Int} {ah : Bool} (h : LwE T e c st nd cs ah) : LwE T' e c st nd cs ah := ⟨hs _ h.1, hs _ h.2, h.3, h.4, h.5⟩
noncomputable def LwO (N : Nat) (s1 n1 s2 n2 : Int) (bn : Option (Int × Int)) : Prop := (n1 < s2 ∨ n2 < s1) ∧ (1 ≤ s1 ∧ 1 ≤ s2 ∧ n1 ≤ N + 1 ∧ n2 ≤ N + 1) ∧ ∀ lo hi, bn = some (lo, hi) → 1 ≤ lo ∧ lo ≤ s1 ∧ lo ≤ s2 ∧ n1 ≤ hi ∧ n2 ≤ hi ∧ hi ≤ N + 1
theorem LwO.swap {N : Nat} {s1 n1 s2 n2 : Int} {bn : Option (Int × Int)} (h : LwO N s1 n1 s2 n2 bn) : LwO N s2 n2 s1 n1 bn := ⟨h.1.symm, ⟨h.2.1.2.1, h.2.1.1, h.2.1.2.2.2, h.2.1.2.2.1⟩, fun lo hi e => by obtain ⟨a, b, c, d, e, f⟩ := h.2.2 lo hi e; exact ⟨a, c, b, e, d, f⟩⟩
inductive LwA (a sg mk : Addr) (ss : List Int) (rm ph : Int) (mvs : List Value) (marks : List (Int × Bool)) (lo : Lo) (led : ALed)  : Prop
  | mk (e1 c1 : Addr) (s1 n1 : Int) (cs1 : List Int) (ah1 : Bool) (e2 c2 : Addr) (s2 n2 : Int) (cs2 : List Int) (ah2 : Bool) (bnV : Value) (bn : Option (Int × Int)) (T : ALed) (x1 x2 x3 x4 x5 x6 : Option Value) (f0 : lo = lwLo a (some (.int ss.length 0)) (some (.int rm 0)) (some (.ref sg)) (some (.int ph 0)) (some (.ref mk)) x1 x2 x3 x4 x5 x6 (some (.ref e1)) (some (.ref e2)) (some bnV) none none none none none none) (f1 : LwE T e1 c1 s1 n1 cs1 ah1) (f2 : LwE T e2 c2 s2 n2 cs2 ah2) (f3 : BnAt T bnV bn) (f4 : TPs T mvs marks) (f5 : (mk, AO.list mvs) ∈ T) (f6 : LwO ss.length s1 n1 s2 n2 bn) (f7 : led = (sg, .list (iv ss)) :: T)
inductive LwM (aS dk il n sg mk : Addr) (ss zs : List Int) (jB jC : Int) (r : List Value) (lo : Lo) (led : ALed) : Prop
  | mk (atv adv : Option Value) (mvs : List Value) (marks : List (Int × Bool)) (k2 : Int) (TP : ALed) (f0 : lo = lwLo aS (some (.int ss.length 0)) (some (.int jB 0)) (some (.ref sg)) (some (.int (1 + jC) 0)) (some (.ref mk)) atv adv none none none none none none none none none none none none none) (f1 : marks.length + r.length = 3) (f2 : TPs TP mvs marks) (f3 : (∀ m ∈ marks, 1 ≤ m.1 ∧ m.1 ≤ ss.length + 1)) (f4 : 0 ≤ k2) (f5 : k2 ≤ 15 + 2 * marks.length) (f6 : led = lwK dk il n k2 zs ((sg, .list (iv ss)) :: (mk, .list mvs) :: TP))
inductive LwB (aS dk il n sg mk : Addr) (ss zs : List Int) (jB jC jF jG jH jI : Int) (atv adv : Option Value) (mvs : List Value) (marks : List (Int × Bool)) (e1 c1 e2 c2 : Addr) (cs1 cs2 : List Int) (ah1 ah2 : Bool) (lo : Lo) (led : ALed) : Prop
  | mk (bnV : Value) (bn : Option (Int × Int)) (k6 : Int) (T : ALed) (f0 : lo = lwLo aS (some (.int ss.length 0)) (some (.int jB 0)) (some (.ref sg)) (some (.int (1 + jC) 0)) (some (.ref mk)) atv adv (some (.int (2 + jF) 0)) (some (.int (1 + jG) 0)) (some (.int (1 + jH) 0)) (some (.int (2 + jF + jI) 0)) (some (.ref e1)) (some (.ref e2)) (some bnV) none none none none none none) (f1 : LwE T e1 c1 (1 + jH) (1 + jG) cs1 ah1) (f2 : LwE T e2 c2 (2 + jF) (2 + jF + jI) cs2 ah2) (f3 : BnAt T bnV bn) (f4 : TPs T mvs marks) (f5 : (mk, AO.list mvs) ∈ T) (f6 : LwO ss.length (1 + jH) (1 + jG) (2 + jF) (2 + jF + jI) bn) (f7 : 0 ≤ k6) (f8 : k6 ≤ 63) (f9 : led = lwK dk il n k6 zs ((sg, .list (iv ss)) :: T))
end
section
open PySem PySem.W PySem.Calls PyProof.Rows PySem.Spec
inductive Gr
  | I (a b : Int)
  | D (xs : List (Addr × Int)) (st : Int) (cs : List Int)
  | R (xs : List (Addr × Int)) (st : Int) (cs : List Int) (b : Int)
noncomputable def rowsG : Gr → List RW
  | .I a b => [.i a b]
  | .D xs st cs => mkRows xs ++ [.d st cs]
  | .R xs st cs b => mkRows xs ++ [.d st cs, .i st b]
noncomputable def MkOk (ps : List Addr) (xs : List (Addr × Int)) : Prop := xs.length ≤ 3 ∧ ∀ x ∈ xs, x.1 ∈ ps
noncomputable def Fits (bv : Int) (ps : List Addr) : Gr → List Int → Int → Prop
  | .I a b, t, zv => 1 ≤ bv ∧ bv ≤ a ∧ a < b ∧ b ≤ zv ∧ zv ≤ t.length + 1
  | .D xs st cs, t, zv => MkOk ps xs ∧ cs ≠ [] ∧ cs.length ≤ 100 ∧ 1 ≤ bv ∧ bv ≤ st ∧ st ≤ zv ∧ zv ≤ t.length + 1
  | .R xs st cs b, t, zv => MkOk ps xs ∧ cs ≠ [] ∧ cs.length ≤ 100 ∧ 1 ≤ bv ∧ bv ≤ st ∧ st < b ∧ b ≤ zv ∧ zv ≤ t.length + 1
noncomputable def effT : Gr → List Int → List Int
  | .I a b, t => delT a b t
  | .D _ st cs, t => insT st cs t
  | .R _ st cs b, t => insT st cs (delT st b t)
noncomputable def effZ : Gr → Int → Int
  | .I a b, z => z - (b - a)
  | .D _ _ cs, z => z + cs.length
  | .R _ st cs b, z => z - (b - st) + cs.length
noncomputable def undoS : Gr → Sem → Sem
  | .I a b, S => delS a b S
  | .D xs st cs, S => undelS st cs xs.reverse S
  | .R xs st cs b, S => undelS st cs xs.reverse (delS st b S)
/-! the text -/
theorem del_ins' {n : Nat} {cs t : List Int} (h : n ≤ t.length) : (t.take n ++ cs ++ t.drop n).take n ++ (t.take n ++ cs ++ t.drop n).drop (n + cs.length) = t := by
  have e : (t.take n).length = n := by rw [List.length_take, Nat.min_eq_left h]
  rw [show n + cs.length = (t.take n ++ cs).length by rw [List.length_append, e], List.drop_left, List.append_assoc, List.take_left' e, List.take_append_drop]
theorem del_ins {p : Int} {cs t : List Int} (h0 : 1 ≤ p) (h1 : p ≤ t.length + 1) : delT p (p + cs.length) (insT p cs t) = t := by
  obtain ⟨n, rfl, e⟩ := tn h0
  have e2 : (((n : Int) + 1 + cs.length) - 1).toNat = n + cs.length := by lia
  rw [delT, insT, e, e2]
  exact del_ins' (by lia)
theorem ins_del {a b : Int} {t : List Int} (h0 : 1 ≤ a) (h : a < b) (h1 : b ≤ t.length + 1) : insT a (cutL a b t) (delT a b t) = t := by
  obtain ⟨n, rfl, e⟩ := tn h0
  obtain ⟨m, rfl, e2⟩ := tn (Int.le_trans h0 (Int.le_of_lt h))
  have hnm : n + (m - n) = m := by lia
  have e3 : (t.take n).length = n := by rw [List.length_take, Nat.min_eq_left (by lia)]
  rw [insT, delT, cutL, e, e2, List.take_left' e3, List.drop_left' e3, List.append_assoc]
  have : (t.drop n).take (m - n) ++ t.drop m = t.drop n := by
    conv => rhs; rw [← List.take_append_drop (m - n) (t.drop n), List.drop_drop, hnm]
  rw [this, List.take_append_drop]
/-! the markers -/
noncomputable def sumP (p : Addr) : List (Addr × Int) → Int
  | [] => 0
  | x :: xs => (if x.1 = p then x.2 else 0) + sumP p xs
theorem sumP_app (p : Addr) (a b : List (Addr × Int)) : sumP p (a ++ b) = sumP p a + sumP p b := by
  induction a with
  | nil => exact (Int.zero_add _).symm
  | cons x a ih => rw [List.cons_append, sumP, sumP, ih, Int.add_assoc]
theorem sumP_rev (p : Addr) (a : List (Addr × Int)) : sumP p a.reverse = sumP p a := by
  induction a with
  | nil => rfl
  | cons x a ih => rw [List.reverse_cons, sumP_app, ih, sumP, sumP, sumP, Int.add_zero, Int.add_comm]
theorem sumP_key (p : Addr) (f : Addr → Bool) (a : List (Addr × Int)) : sumP p (a.filter fun x => f x.1) = if f p = true then sumP p a else 0 := by
  induction a with
  | nil => rw [List.filter_nil, sumP, ite_self]
  | cons x a ih =>
    rw [List.filter_cons]
    by_cases e : x.1 = p
    · subst e
      split
      · rename_i h; rw [sumP, ih, if_pos h, sumP]
      · rename_i h; rw [ih]; rw [if_neg h]
    · split
      · rw [sumP, ih, if_neg e, Int.zero_add, sumP, if_neg e, Int.zero_add]
      · rw [ih, sumP, if_neg e, Int.zero_add]
theorem sumP_nz (p : Addr) (a : List (Addr × Int)) : sumP p (a.filter fun x => decide (x.2 ≠ 0)) = sumP p a := by
  induction a with
  | nil => rfl
  | cons x a ih =>
    rw [List.filter_cons]
    split
    · rw [sumP, ih, sumP]
    · rename_i h
      have h0 : x.2 = 0 := Classical.not_not.mp fun z => h (decide_eq_true z)
      rw [ih, sumP, h0, ite_self, Int.zero_add]
theorem addAll_eq (xs : List (Addr × Int)) : ∀ ms : List MQ, addAll xs ms = ms.map fun m => { m with y := m.y - sumP m.p xs } := by
  induction xs with
  | nil => intro ms; show ms = _; conv => lhs; rw [← List.map_id ms]
           exact List.map_congr_left fun m _ => by show m = { m with y := m.y - 0 }; rw [Int.sub_zero]
  | cons x xs ih =>
    intro ms
    show addAll xs (addP x.1 x.2 ms) = _
    rw [ih, addP, List.map_map]
    refine List.map_congr_left fun m _ => ?_
    show (fun m : MQ => { m with y := m.y - sumP m.p xs }) (if m.p = x.1 then { m with y := m.y - x.2 } else m) = _
    rw [sumP]
    by_cases e : m.p = x.1
    · rw [if_pos e, if_pos e.symm]
      show MQ.mk m.p m.i m.v (m.y - x.2 - sumP m.p xs) = _
      rw [Int.sub_sub]
    · rw [if_neg e, if_neg fun q => e q.symm, Int.zero_add]
theorem sumP_no {p : Addr} {st nd : Int} {ms : List MQ} (h : p ∉ ms.map (·.p)) : sumP p (dists st nd ms) = 0 := by
  induction ms with
  | nil => rfl
  | cons m ms ih =>
    rw [List.map_cons, List.mem_cons, not_or] at h
    rw [dists, List.filter_cons]
    split
    · rw [List.map_cons, sumP, if_neg fun e => h.1 e.symm, Int.zero_add]; exact ih h.2
    · exact ih h.2
theorem mdist_out {st nd y : Int} {v : Bool} {m : MQ} (h : ¬ inM st nd m = true) : mdist st nd v m.y = 0 := by
  unfold mdist
  rw [if_pos]
  rw [inM, Bool.and_eq_true, decide_eq_true_eq, decide_eq_true_eq] at h
  rw [Bool.or_false, Bool.or_eq_true, decide_eq_true_eq, decide_eq_true_eq]
  lia
theorem sumP_at {st nd : Int} {ms : List MQ} {m : MQ} (hn : (ms.map (·.p)).Nodup) (h : m ∈ ms) : sumP m.p (dists st nd ms) = mdist st nd m.v m.y := by
  induction ms with
  | nil => cases h
  | cons a ms ih =>
    rw [List.map_cons, List.nodup_cons] at hn
    rw [dists, List.filter_cons]
    cases h with
    | head =>
      split
      · rw [List.map_cons, sumP, if_pos rfl]
        show _ + sumP m.p (dists st nd ms) = _
        rw [sumP_no hn.1, Int.add_zero]
      · rename_i h
        show sumP m.p (dists st nd ms) = _
        rw [sumP_no hn.1, mdist_out h]; exact m.y
    | tail _ h =>
      have hne : ¬ a.p = m.p := fun e => hn.1 (e ▸ List.mem_map_of_mem (f := (·.p)) h)
      split
      · rw [List.map_cons, sumP, if_neg hne, Int.zero_add]; exact ih hn.2 h
      · exact ih hn.2 h
theorem back_ins {pl n : Int} {bf adv : Bool} {y : Int} (hn : 0 < n) : delAdj pl (pl + n) (insAdj pl (pl + n) bf adv y) = y := by
  unfold delAdj insAdj
  by_cases h : y < pl
  · have e : (decide (pl < y) || (decide (y = pl) && ((bf || (adv || false)) && true) || false)) = false := by
      rw [decide_eq_false (by lia : ¬ pl < y), decide_eq_false (by lia : ¬ y = pl)]; rfl
    rw [e, if_neg Bool.false_ne_true, if_neg (by lia), if_neg (by lia)]
  · split <;> split <;> (try split) <;> lia
theorem rep_del {st nd n y : Int} (hn : 0 < n) (h : st < nd) : delAdj st (st + n) (repAdj st nd n y) = delAdj st nd y := by
  unfold delAdj repAdj
  by_cases h1 : nd ≤ y
  · rw [if_pos h1]; split <;> split <;> (try split) <;> (try split) <;> lia
  · rw [if_neg h1]; split <;> split <;> (try split) <;> lia
theorem back_del {st nd n : Int} {adv : Bool} {y : Int} (hn : n = nd - st) (h : st < nd) :
    insAdj st (st + n) false adv (delAdj st nd y) - (if decide (delAdj st nd y = st) = true then mdist st nd adv y else 0) = y := by
  subst hn
  have e0 : st + (nd - st) - st = nd - st := by lia
  by_cases h1 : nd < y
  · have e : delAdj st nd y = y - (nd - st) := if_pos h1
    have e2 : decide (st < y - (nd - st)) = true := decide_eq_true (by lia)
    have e3 : decide (y - (nd - st) = st) = false := decide_eq_false (by lia)
    rw [e, e3, if_neg Bool.false_ne_true, insAdj, e2, Bool.true_or, if_pos rfl]; lia
  · by_cases h2 : st ≤ y
    · have e : delAdj st nd y = st := by unfold delAdj; rw [if_neg h1]; split <;> lia
      have e3 : (decide (y < st) || (decide (nd < y) || false)) = false := by rw [decide_eq_false (by lia : ¬ y < st), decide_eq_false h1]; rfl
      rw [e, decide_eq_true rfl, if_pos rfl, mdist, e3, if_neg Bool.false_ne_true, insAdj, decide_eq_true rfl, decide_eq_false (Int.lt_irrefl st)]
      cases adv
      · show st - (st - y) = y; lia
      · show st + (st + (nd - st)) - st - (nd - y) = y; lia
    · have e : delAdj st nd y = y := by unfold delAdj; rw [if_neg h1, if_neg (by lia)]
      have e2 : decide (st < y) = false := decide_eq_false (by lia)
      have e3 : decide (y = st) = false := decide_eq_false (by lia)
      rw [e, e3, if_neg Bool.false_ne_true, insAdj, e2, e3]
      show y - 0 = y; lia
theorem undel_y {st nd : Int} {ms : List MQ} {S' : Sem} {cs : List Int} (hnd : (ms.map (·.p)).Nodup) (hy : S'.ms = ms.map (adjM fun _ => delAdj st nd)) (hn : (cs.length : Int) = nd - st) (h : st < nd) :
    (undelS st cs (recS st nd ms).reverse S').ms = ms := by
  show addAll ((recS st nd ms).reverse.filter fun x => atP st S'.ms x.1) (S'.ms.map (adjM (insAdj st (st + cs.length) false))) = ms
  rw [addAll_eq, hy, List.map_map, List.map_map]
  conv => rhs; rw [← List.map_id ms]
  refine List.map_congr_left fun m hm => ?_
  obtain ⟨a, b, rfl⟩ := List.append_of_mem hm
  have hat : atP st ((a ++ m :: b).map (adjM fun _ => delAdj st nd)) m.p = decide (delAdj st nd m.y = st) := by
    rw [List.map_append, List.map_cons]
    refine atP_at (m := adjM (fun _ => delAdj st nd) m) ?_
    rw [← List.map_cons, ← List.map_append, adj_p]; exact hnd
  have e : sumP m.p ((recS st nd (a ++ m :: b)).reverse.filter fun x => atP st ((a ++ m :: b).map (adjM fun _ => delAdj st nd)) x.1) = if decide (delAdj st nd m.y = st) = true then mdist st nd m.v m.y else 0 := by
    rw [sumP_key m.p (atP st ((a ++ m :: b).map (adjM fun _ => delAdj st nd))), hat, sumP_rev, recS, sumP_nz, sumP_at hnd hm]
  show MQ.mk m.p m.i m.v (insAdj st (st + cs.length) false m.v (delAdj st nd m.y) - sumP m.p _) = m
  rw [e, back_del hn h]
end
section
open PySem PySem.W PySem.Calls PyProof.Rows PySem.Spec
theorem not_at {pre : List RW} {x : RW} (h : x ≠ RW.b) : ¬ AtBd (pre ++ [x]) := by
  rintro (h1 | ⟨p, h1⟩)
  · exact List.append_ne_nil_of_right_ne_nil _ (List.cons_ne_nil _ _) h1
  · exact h (List.cons.inj (List.append_inj' h1 rfl).2).1
theorem im_note {S : Sem} (h : S.sv < S.nk) : noteRows S = [] := by
  unfold noteRows unRows unB imS
  rw [decide_eq_true h]; rfl
theorem note_len (S : Sem) : (noteRows S).length ≤ 1 := by
  unfold noteRows unRows
  split
  · exact Nat.le_refl _
  · exact Nat.zero_le _
theorem note_twice (S : Sem) (st nd : Int) : noteRows (outS st nd S) = [] := by
  show unRows (imS S) (unNt (imS S) S.nt S.sv) S.sv = []
  unfold unRows
  rw [if_neg]
  unfold unNt
  split
  · unfold unB; rw [decide_eq_true rfl, Bool.not_true, Bool.false_and, Bool.and_false]; exact Bool.false_ne_true
  · assumption
section
variable {bv : Int} {ps : List Addr}
theorem dists_len (st nd : Int) (ms : List MQ) : (recS st nd ms).length ≤ ms.length :=
  Nat.le_trans (List.length_filter_le _ _) (by rw [dists, List.length_map]; exact List.length_filter_le _ _)
theorem rec_ok {st nd : Int} {S : Sem} (hps : S.ms.map (·.p) = ps) (hl : ps.length ≤ 3) : MkOk ps (recS st nd S.ms) := by
  refine ⟨Nat.le_trans (dists_len st nd S.ms) (by rw [← hps, List.length_map] at hl; exact hl), fun x hx => ?_⟩
  obtain ⟨m, hm, rfl⟩ := List.mem_map.mp (List.mem_filter.mp hx).1
  rw [← hps]
  exact List.mem_map_of_mem (f := (·.p)) (List.mem_filter.mp hm).1
theorem mk_len (xs : List (Addr × Int)) : (mkRows xs).length = xs.length := List.length_map _
theorem MkOk.ms {xs : List (Addr × Int)} (h : MkOk ps xs) {S : Sem} (hps : S.ms.map (·.p) = ps) : MsOk S xs := ⟨Nat.le_trans h.1 (by decide), fun x hx => hps ▸ h.2 x hx⟩
theorem del_ps (a b : Int) (S : Sem) : (delS a b S).ms.map (·.p) = S.ms.map (·.p) := adj_p _ _
theorem undel_ps (st : Int) (cs : List Int) (xs : List (Addr × Int)) (S : Sem) : (undelS st cs xs S).ms.map (·.p) = S.ms.map (·.p) := (addAll_p _ _).trans (adj_p _ _)
theorem undo_ps (g : Gr) (S : Sem) : (undoS g S).ms.map (·.p) = S.ms.map (·.p) := by
  cases g with
  | I a b => exact del_ps _ _ _
  | D xs st cs => exact undel_ps _ _ _ _
  | R xs st cs b => exact (undel_ps _ _ _ _).trans (del_ps _ _ _)
theorem len_rows (g : Gr) (h : Fits bv ps g t zv) : (rowsG g).length ≤ 5 := by
  cases g with
  | I a b => exact Nat.le_of_ble_eq_true rfl
  | D xs st cs => rw [rowsG, List.length_append, mk_len]; exact Nat.add_le_add_right (Nat.le_trans h.1.1 (by decide : 3 ≤ 4)) 1
  | R xs st cs b => rw [rowsG, List.length_append, mk_len]; exact Nat.add_le_add_right h.1.1 2
theorem len1_app {α : Type} (l : List α) (x : α) : (l ++ [x]).length = l.length + 1 := List.length_append
theorem undo_steps {g : Gr} {S : Sem} {pre : List RW} (hl0 : ps.length ≤ 3) (hps : S.ms.map (·.p) = ps) (hf : Fits bv ps g S.tx S.zv) (h3 : S.tx.length ≤ 500) (hr : S.rows.length ≤ 500) (hb : ∃ p, S.rows = p ++ [RW.b]) (hp : NoM pre)
    {r' : List RW} {S' : Sem} (hh : StepsU bv pre (undoS g S) r' S') : StepsU bv (pre ++ rowsG g) S r' S' := by
  have hr6 : S.rows.length ≤ 600 := Nat.le_trans hr (by decide)
  have h36 : S.tx.length ≤ 600 := Nat.le_trans h3 (by decide)
  cases g with
  | I a b =>
    obtain ⟨f1, f2, f3, f5, f6⟩ := hf
    exact .step (not_at nofun) (.ins f2 f3 f5 ⟨f6, h36, hr6⟩ (.inr hb)) hh
  | D xs st cs =>
    obtain ⟨f1, f2, f3, f4, f5, f6, f7⟩ := hf
    refine .step ?_ (.del hp (f1.ms hps) f2 f3 f5 f6 ⟨f7, h36, hr6⟩ ?_) hh
    · show ¬ AtBd (pre ++ (mkRows xs ++ [RW.d st cs])); rw [← List.append_assoc]; exact not_at nofun
    · obtain ⟨p, hb⟩ := hb; exact .inr ⟨p, _, hb, .inl rfl⟩
  | R xs st cs b =>
    obtain ⟨f1, f2, f3, f4, f5, f6, f8, f9⟩ := hf
    have e : pre ++ rowsG (.R xs st cs b) = (pre ++ (mkRows xs ++ [RW.d st cs])) ++ [RW.i st b] := by rw [List.append_assoc, List.append_assoc]; rfl
    have hb1 : b ≤ S.tx.length + 1 := Int.le_trans f8 f9
    have el : ((delS st b S).tx.length : Int) = S.tx.length - (b - st) := del_len (t := S.tx) (Int.le_trans f4 f5) f6 hb1
    have hrec := (rec_ok (st := st) (nd := b) hps hl0).1
    have hl2 : (delS st b S).rows.length ≤ 600 := by
      have h1 := note_len S
      have h2 := dists_len st b S.ms
      have h3 := hps ▸ List.length_map (f := (·.p)) (as := S.ms)
      show (S.rows ++ (noteRows S ++ (mkRows (recS st b S.ms) ++ [RW.d st (cutL st b S.tx)]))).length ≤ _
      rw [List.length_append, List.length_append, List.length_append, mk_len]
      show _ + (_ + (_ + 1)) ≤ 600
      lia
    have hz : (delS st b S).zv = S.zv - (b - st) := rfl
    rw [e]
    refine .step (not_at nofun) (.ins f5 f6 f8 ⟨f9, h36, hr6⟩ (.inr hb)) (.step ?_ (.del hp (f1.ms ((del_ps _ _ _).trans hps)) f2 f3 f5 ?_ ⟨?_, ?_, hl2⟩ ?_) hh)
    · rw [← List.append_assoc]; exact not_at nofun
    · rw [hz]; lia
    · rw [hz, el]; lia
    · lia
    · exact .inr ⟨S.rows ++ (noteRows S ++ mkRows (recS st b S.ms)), RW.d st (cutL st b S.tx), by rw [List.append_assoc, List.append_assoc]; rfl, .inr ⟨_, _, rfl⟩⟩
inductive UnE (bv : Int) (ps : List Addr) (g : Gr) (S : Sem) : Prop
  | mk (a0 : (undoS g S).tx = effT g S.tx) (a1 : (undoS g S).zv = effZ g S.zv) (a2 : (undoS g S).sv = S.sv) (a3 : S.nk < (undoS g S).nk) (g' : Gr) (b0 : (undoS g S).rows = S.rows ++ (noteRows S ++ rowsG g')) (b1 : Fits bv ps g' (effT g S.tx) (effZ g S.zv)) (b2 : effT g' (effT g S.tx) = S.tx) (b3 : effZ g' (effZ g S.zv) = S.zv)
inductive EdE (bv : Int) (ps : List Addr) (e : Ed) (S : Sem) : Prop
  | mk (a0 : (edS e S).sv = S.sv) (a1 : S.nk < (edS e S).nk) (a2 : (edS e S).ms.map (·.p) = ps) (g : Gr) (b0 : (edS e S).rows = S.rows ++ (noteRows S ++ rowsG g)) (b1 : Fits bv ps g (edS e S).tx (edS e S).zv) (b2 : effT g (edS e S).tx = S.tx) (b3 : effZ g (edS e S).zv = S.zv) (b4 : ∀ S', S'.ms = (edS e S).ms → (undoS g S').ms = S.ms)
theorem undo_eff {g : Gr} {S : Sem} (hl0 : ps.length ≤ 3) (hps : S.ms.map (·.p) = ps) (hf : Fits bv ps g S.tx S.zv) (ht : S.tx.length ≤ 90) (hk : S.sv ≤ S.nk) : UnE bv ps g S := by
  have hnk : S.nk < S.nk + 1 := Int.lt_succ _
  cases g with
  | I a b =>
    obtain ⟨f1, f2, f3, f5, f6⟩ := hf
    have h1 := Int.le_trans f1 f2
    have hb1 := Int.le_trans f5 f6
    have k1 := cut_len (t := S.tx) h1 f3 hb1
    have k2 := del_len (t := S.tx) h1 f3 hb1
    refine ⟨rfl, rfl, rfl, hnk, .D (recS a b S.ms) a (cutL a b S.tx), rfl, ⟨rec_ok hps hl0, fun e => ?_, ?_, f1, f2, ?_, ?_⟩, ins_del h1 f3 hb1, ?_⟩
    · rw [e, List.length_nil] at k1; lia
    · lia
    · show a ≤ S.zv - (b - a); lia
    · show S.zv - (b - a) ≤ (delT a b S.tx).length + 1; rw [k2]; lia
    · show S.zv - (b - a) + (cutL a b S.tx).length = S.zv; rw [k1, Int.sub_add_cancel]
  | D xs st cs =>
    obtain ⟨f1, f2, f3, f4, f5, f6, f7⟩ := hf
    have h1 := Int.le_trans f4 f5
    have hc : 0 < (cs.length : Int) := Int.natCast_pos.mpr (List.length_pos_iff.mpr f2)
    have k2 := ins_len (t := S.tx) (cs := cs) h1 (Int.le_trans f6 f7)
    refine ⟨rfl, rfl, rfl, hnk, .I st (st + cs.length), rfl, ⟨f4, f5, Int.lt_add_of_pos_right _ hc, Int.add_le_add_right f6 _, ?_⟩, del_ins h1 (Int.le_trans f6 f7), ?_⟩
    · show S.zv + cs.length ≤ (insT st cs S.tx).length + 1; rw [k2]; lia
    · show S.zv + cs.length - (st + cs.length - st) = S.zv; lia
  | R xs st cs b =>
    obtain ⟨f1, f2, f3, f4, f5, f6, f8, f9⟩ := hf
    have h1 := Int.le_trans f4 f5
    have hb1 := Int.le_trans f8 f9
    have k1 := cut_len (t := S.tx) h1 f6 hb1
    have k2 := del_len (t := S.tx) h1 f6 hb1
    have hc : 0 < (cs.length : Int) := Int.natCast_pos.mpr (List.length_pos_iff.mpr f2)
    have hs1 : st ≤ (delT st b S.tx).length + 1 := by rw [k2]; lia
    have k5 := ins_len (t := delT st b S.tx) (cs := cs) h1 hs1
    have hn : noteRows (delS st b S) = [] := im_note (show S.sv < S.nk + 1 from Int.lt_of_le_of_lt hk hnk)
    refine ⟨rfl, rfl, rfl, Int.lt_trans hnk (Int.lt_succ _), .R (recS st b S.ms) st (cutL st b S.tx) (st + cs.length), ?_, ⟨rec_ok hps hl0, fun e => ?_, ?_, f4, f5, Int.lt_add_of_pos_right _ hc, ?_, ?_⟩, ?_, ?_⟩
    · show (S.rows ++ (noteRows S ++ (mkRows (recS st b S.ms) ++ [RW.d st (cutL st b S.tx)]))) ++ (noteRows (delS st b S) ++ [RW.i st (st + cs.length)]) = _
      rw [hn, List.nil_append, List.append_assoc, List.append_assoc, List.append_assoc]; rfl
    · rw [e, List.length_nil] at k1; lia
    · lia
    · show st + cs.length ≤ S.zv - (b - st) + cs.length; lia
    · show S.zv - (b - st) + cs.length ≤ (insT st cs (delT st b S.tx)).length + 1; rw [k5, k2]; lia
    · show insT st (cutL st b S.tx) (delT st (st + cs.length) (insT st cs (delT st b S.tx))) = S.tx
      rw [del_ins h1 hs1, ins_del h1 f6 hb1]
    · show S.zv - (b - st) + cs.length - (st + cs.length - st) + (cutL st b S.tx).length = S.zv; rw [k1]; lia
theorem ed_eff {e : Ed} {S : Sem} (hl0 : ps.length ≤ 3) (hps : S.ms.map (·.p) = ps) (hnd : ps.Nodup) (hb : 1 ≤ bv) (ht : S.tx.length ≤ 90) (hf : EdOk bv e S.tx S.zv) : EdE bv ps e S := by
  have hnk : S.nk < S.nk + 1 := Int.lt_succ _
  cases e with
  | I pl cs bf =>
    obtain ⟨f1, f2, f4, f5, f6⟩ := hf
    have h1 := Int.le_trans hb f4
    have hc : 0 < (cs.length : Int) := Int.natCast_pos.mpr (List.length_pos_iff.mpr f1)
    have hp1 := Int.le_trans f5 f6
    have k2 := ins_len (t := S.tx) (cs := cs) h1 hp1
    refine ⟨rfl, hnk, (adj_p _ _).trans hps, .I pl (pl + cs.length), rfl, ⟨hb, f4, Int.lt_add_of_pos_right _ hc, Int.add_le_add_right f5 _, ?_⟩, del_ins h1 hp1, ?_, ?_⟩
    · show S.zv + cs.length ≤ (insT pl cs S.tx).length + 1; rw [k2]; lia
    · show S.zv + cs.length - (pl + cs.length - pl) = S.zv; lia
    · intro S' h
      show S'.ms.map (adjM fun _ => delAdj pl (pl + cs.length)) = S.ms
      rw [h]
      show (S.ms.map (adjM (insAdj pl (pl + cs.length) bf))).map _ = S.ms
      rw [List.map_map]
      conv => rhs; rw [← List.map_id S.ms]
      refine List.map_congr_left fun m _ => ?_
      show MQ.mk m.p m.i m.v (delAdj pl (pl + cs.length) (insAdj pl (pl + cs.length) bf m.v m.y)) = m
      rw [back_ins hc]
  | D st nd =>
    obtain ⟨f2, f3, f5, f6⟩ := hf
    have h1 := Int.le_trans hb f2
    have hb1 := Int.le_trans f5 f6
    have k1 := cut_len (t := S.tx) h1 f3 hb1
    have k2 := del_len (t := S.tx) h1 f3 hb1
    refine ⟨rfl, hnk, (adj_p _ _).trans hps, .D (recS st nd S.ms) st (cutL st nd S.tx), rfl, ⟨rec_ok hps hl0, fun e => ?_, ?_, hb, f2, ?_, ?_⟩, ins_del h1 f3 hb1, ?_, ?_⟩
    · rw [e, List.length_nil] at k1; lia
    · lia
    · show st ≤ S.zv - (nd - st); lia
    · show S.zv - (nd - st) ≤ (delT st nd S.tx).length + 1; rw [k2]; lia
    · show S.zv - (nd - st) + (cutL st nd S.tx).length = S.zv; rw [k1, Int.sub_add_cancel]
    · intro S' h; exact undel_y (hps ▸ hnd) h k1 f3
  | R st nd cs =>
    obtain ⟨f1, f2, f4, f5, f7, f8⟩ := hf
    have h1 := Int.le_trans hb f4
    have hb1 := Int.le_trans f7 f8
    have k1 := cut_len (t := S.tx) h1 f5 hb1
    have k2 := del_len (t := S.tx) h1 f5 hb1
    have hc : 0 < (cs.length : Int) := Int.natCast_pos.mpr (List.length_pos_iff.mpr f1)
    have hs1 : st ≤ (delT st nd S.tx).length + 1 := by rw [k2]; lia
    have k5 := ins_len (t := delT st nd S.tx) (cs := cs) h1 hs1
    have hn := note_twice S st nd
    refine ⟨rfl, hnk, (adj_p _ _).trans hps, .R (recS st nd S.ms) st (cutL st nd S.tx) (st + cs.length), ?_, ⟨rec_ok hps hl0, fun e => ?_, ?_, hb, f4, Int.lt_add_of_pos_right _ hc, ?_, ?_⟩, ?_, ?_, ?_⟩
    · show (S.rows ++ (noteRows S ++ (mkRows (recS st nd S.ms) ++ [RW.d st (cutL st nd S.tx)]))) ++ (noteRows (outS st nd S) ++ [RW.i st (st + cs.length)]) = _
      rw [hn, List.nil_append, List.append_assoc, List.append_assoc, List.append_assoc]; rfl
    · rw [e, List.length_nil] at k1; lia
    · lia
    · show st + cs.length ≤ S.zv - (nd - st) + cs.length; lia
    · show S.zv - (nd - st) + cs.length ≤ (insT st cs (delT st nd S.tx)).length + 1; rw [k5, k2]; lia
    · show insT st (cutL st nd S.tx) (delT st (st + cs.length) (insT st cs (delT st nd S.tx))) = S.tx
      rw [del_ins h1 hs1, ins_del h1 f5 hb1]
    · show S.zv - (nd - st) + cs.length - (st + cs.length - st) + (cutL st nd S.tx).length = S.zv; rw [k1]; lia
    · intro S' h
      refine undel_y (hps ▸ hnd) ?_ k1 f5
      show S'.ms.map (adjM fun _ => delAdj st (st + cs.length)) = _
      rw [h]
      show (S.ms.map (adjM fun _ => repAdj st nd cs.length)).map _ = _
      rw [List.map_map]
      refine List.map_congr_left fun m _ => ?_
      show MQ.mk m.p m.i m.v (delAdj st (st + cs.length) (repAdj st nd cs.length m.y)) = MQ.mk m.p m.i m.v (delAdj st nd m.y)
      rw [rep_del hc f5]
theorem ren_G (k k' : Int) (g : Gr) : (rowsG g).map (renR k k') = rowsG g := by
  cases g with
  | I a b => rfl
  | D xs st cs => rw [rowsG, mkRows, List.map_append, List.map_map]; rfl
  | R xs st cs b => rw [rowsG, mkRows, List.map_append, List.map_map]; rfl
theorem G_last (g : Gr) : ∃ a x, rowsG g = a ++ [x] ∧ x ≠ RW.b := by
  cases g with
  | I a b => exact ⟨[], _, rfl, nofun⟩
  | D xs st cs => exact ⟨_, _, rfl, nofun⟩
  | R xs st cs b => exact ⟨mkRows xs ++ [RW.d st cs], RW.i st b, by rw [List.append_assoc]; rfl, nofun⟩
theorem not_G {pre : List RW} (g : Gr) : ¬ AtBd (pre ++ rowsG g) := by
  obtain ⟨a, x, e, h⟩ := G_last g
  rw [e, ← List.append_assoc]; exact not_at h
end
end
section
open PySem PySem.W PySem.Calls PyProof.Rows PySem.Spec
theorem ren_app {α β : Type} (f : α → β) (a b c : List α) : (a ++ b ++ c).map f = a.map f ++ b.map f ++ c.map f := by rw [List.map_append, List.map_append]
theorem len3_app {α : Type} (a b : List α) (x : α) : (a ++ b ++ [x]).length = a.length + b.length + 1 := by rw [List.length_append, List.length_append]; rfl
inductive PlainR (bv : Int) (ps : List Addr) (e1 e2 : Ed) (S0 A1 A2 : Sem) : Prop
  | mk (a : (¬ AtBd (edS e1 S0).rows ∧ ¬ AtBd (edS e2 A1).rows ∧ (edS e1 S0).rows.length ≤ 100 ∧ (edS e2 A1).rows.length ≤ 100 ∧ A1.ms.map (·.p) = ps ∧ A2.ms.map (·.p) = ps)) (S3 S4 S5 S6 : Sem) (b0 : UndS bv A2.rows A2 [S3, S4] (bndS S4)) (b1 : UndS bv (bndS S4).rows (bndS S4) [S5, S6] (bndS S6)) (b2 : S3.tx = A1.tx) (b3 : S3.ms = A1.ms) (b4 : S4.tx = S0.tx) (b5 : S4.ms = S0.ms) (b6 : imS S3 = true) (b7 : imS S4 = false) (b8 : S5.tx = A1.tx) (b9 : S6.tx = A2.tx) (b10 : (bndS S4).rows.length ≤ 100) (b11 : S4.ms.map (·.p) = ps)
theorem plain {bv : Int} {ps : List Addr} (hl0 : ps.length ≤ 3) (hnd : ps.Nodup) (hb : 1 ≤ bv) {e1 e2 : Ed} {S0 A1 A2 : Sem} (hps : S0.ms.map (·.p) = ps) (hr : S0.rows = []) (hs : S0.sv = S0.nk) (hn : S0.nt = none) (hl : S0.tx.length ≤ 20) (h1 : EdOk bv e1 S0.tx S0.zv) (e_1 : A1 = bndS (edS e1 S0)) (hl1 : A1.tx.length ≤ 40) (h2 : EdOk bv e2 A1.tx A1.zv) (e_2 : A2 = bndS (edS e2 A1)) (hl2 : A2.tx.length ≤ 60) :
    PlainR bv ps e1 e2 S0 A1 A2 := by
  have hn0 := note_len S0
  have hu0 : noteRows S0 = [RW.u S0.sv] := by
    unfold noteRows unRows unB imS
    rw [hs, hn, decide_eq_false (Int.lt_irrefl _)]; rfl
  obtain ⟨a1, a2, a3, g1, a4, a5, a6, a7, a9⟩ := ed_eff hl0 hps hnd hb (Nat.le_trans hl (by decide)) h1
  have t1 : A1.tx = (edS e1 S0).tx := by rw [e_1]; rfl
  have z1 : A1.zv = (edS e1 S0).zv := by rw [e_1]; rfl
  have s1 : A1.sv = S0.sv := by rw [e_1]; exact a1
  have p1 : A1.ms.map (·.p) = ps := by rw [e_1]; exact a3
  have m1 : A1.ms = (edS e1 S0).ms := by rw [e_1]; rfl
  obtain ⟨b1, b2, b3, g2, b4, b5, b6, b7, b9⟩ := ed_eff hl0 p1 hnd hb (Nat.le_trans hl1 (by decide)) h2
  have i1 : A1.sv < A1.nk := by rw [e_1]; show (edS e1 S0).sv < (edS e1 S0).nk; rw [a1, hs]; exact a2
  have i2 : A2.sv < A2.nk := by rw [e_2]; show (edS e2 A1).sv < (edS e2 A1).nk; rw [b1]; exact Int.lt_trans i1 b2
  have t2 : A2.tx = (edS e2 A1).tx := by rw [e_2]; rfl
  have z2 : A2.zv = (edS e2 A1).zv := by rw [e_2]; rfl
  have m2 : A2.ms = (edS e2 A1).ms := by rw [e_2]; rfl
  have p2 : A2.ms.map (·.p) = ps := by rw [e_2]; exact b3
  have s2 : A2.sv = S0.sv := by rw [e_2]; exact b1.trans s1
  have r0 : (edS e1 S0).rows = [RW.u S0.sv] ++ rowsG g1 := by rw [a4, hr, hu0]; rfl
  have r1 : A1.rows = [RW.u S0.sv] ++ rowsG g1 ++ [RW.b] := by rw [e_1]; show (edS e1 S0).rows ++ [RW.b] = _; rw [r0]
  have r20 : (edS e2 A1).rows = A1.rows ++ rowsG g2 := by rw [b4, im_note i1, List.nil_append]
  have r2 : A2.rows = A1.rows ++ rowsG g2 ++ [RW.b] := by rw [e_2]; show (edS e2 A1).rows ++ [RW.b] = _; rw [r20]
  have c1 := len_rows g1 a5
  have c2 := len_rows g2 b5
  have l1 : A1.rows.length ≤ 7 := by rw [r1, len3_app]; show 1 + _ + 1 ≤ 7; lia
  have l2 : A2.rows.length ≤ 13 := by rw [r2, len3_app]; lia
  have l10 : (edS e1 S0).rows.length ≤ 100 := by rw [r0, List.length_append]; show 1 + _ ≤ 100; lia
  have l20 : (edS e2 A1).rows.length ≤ 100 := by rw [r20, List.length_append]; lia
  rw [← t1, ← z1] at a5
  rw [← t1] at a6
  rw [← z1] at a7
  rw [← t2, ← z2] at b5
  rw [← t2] at b6
  rw [← z2] at b7
  -- the second group undone
  obtain ⟨c1, c2, c3, c4, u2, c5, c6, c7, c8⟩ := undo_eff hl0 p2 b5 (Nat.le_trans hl2 (by decide)) (Int.le_of_lt i2)
  have y3 : (undoS g2 A2).ms = A1.ms := b9 A2 m2
  have k3 := undo_ps g2 A2
  have st3 := undo_steps (pre := A1.rows) hl0 p2 b5 (Nat.le_trans hl2 (by decide)) (Nat.le_trans l2 (by decide)) ⟨_, r2⟩ (.inl (.inr ⟨_, r1⟩)) (.done (.inr ⟨_, r1⟩))
  rw [im_note i2, List.nil_append] at c5
  rw [b6] at c1 c6 c7
  rw [b7] at c2 c6 c8
  generalize undoS g2 A2 = S3 at c1 c2 c3 c4 c5 y3 st3 k3
  have q2 := len_rows u2 c6
  have l3 : S3.rows.length ≤ 18 := by rw [c5, List.length_append]; lia
  have i3 : S3.sv < S3.nk := by rw [c3]; exact Int.lt_trans i2 c4
  have hk3 : S3.ms.map (·.p) = ps := k3.trans p2
  have nb3 : ¬ AtBd S3.rows := by rw [c5]; exact not_G u2
  -- the first
  have fB : Fits bv ps g1 (bndS S3).tx (bndS S3).zv := by show Fits bv ps g1 S3.tx S3.zv; rw [c1, c2]; exact a5
  have hl3 : (bndS S3).tx.length ≤ 40 := by show S3.tx.length ≤ 40; rw [c1]; exact hl1
  have lb3 : (bndS S3).rows.length = S3.rows.length + 1 := len1_app _ _
  obtain ⟨d1, d2, d3, d4, u1, d5, d6, d7, d8⟩ := undo_eff hl0 (S := bndS S3) hk3 fB (Nat.le_trans hl3 (by decide)) (Int.le_of_lt i3)
  have y4 : (undoS g1 (bndS S3)).ms = S0.ms := a9 (bndS S3) (y3.trans m1)
  rw [show (bndS S3).tx = A1.tx from c1] at d1 d6 d7
  rw [show (bndS S3).zv = A1.zv from c2] at d2 d6 d8
  rw [a6] at d1 d6 d7
  rw [a7] at d2 d6 d8
  rw [im_note (S := bndS S3) i3, List.nil_append] at d5
  have q1 := len_rows u1 d6
  have sB : (bndS S3).sv = S0.sv := c3.trans s2
  have lX : (undoS g1 (bndS S3)).rows.length ≤ 30 := by rw [d5, List.length_append, lb3]; lia
  have st4 : StepsU bv ([RW.u S0.sv] ++ rowsG g1) (bndS S3) [] (renS (undoS g1 (bndS S3))) := by
    refine undo_steps (S := bndS S3) hl0 hk3 fB (Nat.le_trans hl3 (by decide)) (by rw [lb3]; lia) ⟨_, rfl⟩ (.inr ⟨[], _, rfl⟩) ?_
    have := StepU.unm (bv := bv) (pre := []) (S := undoS g1 (bndS S3)) (Nat.le_trans lX (by decide))
    rw [d3, sB] at this
    exact .step (not_at nofun) this (.done (.inl rfl))
  generalize undoS g1 (bndS S3) = X4 at d1 d2 d3 d4 d5 y4 st4 lX
  have r4 : (renS X4).rows = (A2.rows.map (renR X4.sv X4.nk) ++ rowsG u2 ++ [RW.b]) ++ rowsG u1 := by
    show X4.rows.map _ = _
    rw [d5]
    show ((S3.rows ++ [RW.b]) ++ rowsG u1).map _ = _
    rw [c5, List.map_append, ren_app, ren_G, ren_G]
    rfl
  have l4 : (renS X4).rows.length ≤ 30 := by show (X4.rows.map _).length ≤ 30; rw [List.length_map]; exact lX
  have i4 : (renS X4).sv = (renS X4).nk := rfl
  have hrn : ∃ p, A2.rows.map (renR X4.sv X4.nk) = p ++ [RW.b] := ⟨(A1.rows ++ rowsG g2).map (renR X4.sv X4.nk), by rw [r2, List.map_append]; rfl⟩
  have t4 : (renS X4).tx = S0.tx := d1
  have z4 : (renS X4).zv = S0.zv := d2
  have y4' : (renS X4).ms = S0.ms := y4
  generalize A2.rows.map (renR X4.sv X4.nk) = AA at r4 hrn
  generalize renS X4 = S4 at t4 z4 i4 r4 l4 y4' st4
  have k4 : S4.ms.map (·.p) = ps := by rw [y4']; exact hps
  have nb4 : ¬ AtBd S4.rows := by rw [r4]; exact not_G u1
  have lb4 : (bndS S4).rows.length = S4.rows.length + 1 := len1_app _ _
  -- what was undone, undone
  have fC : Fits bv ps u1 (bndS S4).tx (bndS S4).zv := by show Fits bv ps u1 S4.tx S4.zv; rw [t4, z4]; exact d6
  have hl4 : (bndS S4).tx.length ≤ 20 := by show S4.tx.length ≤ 20; rw [t4]; exact hl
  obtain ⟨p1, p2, p3, p4, v1, p5, p6, p7, p8⟩ := undo_eff hl0 (S := bndS S4) k4 fC (Nat.le_trans hl4 (by decide)) (Int.le_of_eq i4)
  rw [show (bndS S4).tx = S0.tx from t4] at p1 p6 p7
  rw [show (bndS S4).zv = S0.zv from z4] at p2 p6 p8
  rw [d7] at p1 p6 p7
  rw [d8] at p2 p6 p8
  have k5 := undo_ps u1 (bndS S4)
  have st5 := undo_steps (S := bndS S4) (pre := AA ++ rowsG u2 ++ [RW.b]) hl0 k4 fC (Nat.le_trans hl4 (by decide)) (by rw [lb4]; lia) ⟨_, rfl⟩ (.inl (.inr ⟨_, rfl⟩)) (.done (.inr ⟨_, rfl⟩))
  generalize undoS u1 (bndS S4) = S5 at p1 p2 p3 p4 p5 st5 k5
  have hn5 := note_len (bndS S4)
  have qv := len_rows v1 p6
  have l5 : S5.rows.length ≤ 40 := by rw [p5, List.length_append, List.length_append, lb4]; lia
  have i5 : S5.sv < S5.nk := by rw [p3]; show S4.sv < _; rw [i4]; exact p4
  have hk5 : (bndS S5).ms.map (·.p) = ps := k5.trans k4
  have lb5 : (bndS S5).rows.length = S5.rows.length + 1 := len1_app _ _
  have fD : Fits bv ps u2 (bndS S5).tx (bndS S5).zv := by show Fits bv ps u2 S5.tx S5.zv; rw [p1, p2]; exact c6
  have hl5 : (bndS S5).tx.length ≤ 40 := by show S5.tx.length ≤ 40; rw [p1]; exact hl1
  obtain ⟨q1, q2, q3, q4, v2, q5, q6, q7, q8⟩ := undo_eff hl0 (S := bndS S5) hk5 fD (Nat.le_trans hl5 (by decide)) (Int.le_of_lt i5)
  rw [show (bndS S5).tx = A1.tx from p1, c7] at q1
  have st6 := undo_steps (S := bndS S5) (pre := AA) hl0 hk5 fD (Nat.le_trans hl5 (by decide)) (by rw [lb5]; lia) ⟨_, rfl⟩ (.inl (.inr hrn)) (.done (.inr hrn))
  rw [show (bndS S5).tx = A1.tx from p1, show (bndS S5).zv = A1.zv from p2] at q6
  have qw := len_rows v2 (c7 ▸ q6)
  have hn6 := note_len (bndS S5)
  have l6 : (undoS u2 (bndS S5)).rows.length ≤ 60 := by rw [q5, List.length_append, List.length_append, lb5]; lia
  have nb5 : ¬ AtBd S5.rows := by rw [p5, ← List.append_assoc]; exact not_G _
  have nb6 : ¬ AtBd (undoS u2 (bndS S5)).rows := by rw [q5, ← List.append_assoc]; exact not_G _
  refine ⟨⟨by rw [r0]; exact not_G _, by rw [r20]; exact not_G _, l10, l20, ‹_›, ‹_›⟩, S3, S4, S5, undoS u2 (bndS S5),
    .cons ⟨A1.rows ++ rowsG g2, r2, not_G _, st3⟩ nb3 (Nat.le_trans l3 (by decide)) (.cons ⟨[RW.u S0.sv] ++ rowsG g1, r1, not_G _, st4⟩ nb4 (Nat.le_trans l4 (by decide)) .nil),
    .cons ⟨AA ++ rowsG u2 ++ [RW.b] ++ rowsG u1, congrArg (· ++ [RW.b]) r4, not_G _, st5⟩ nb5 (Nat.le_trans l5 (by decide)) (.cons ⟨AA ++ rowsG u2, rfl, not_G _, st6⟩ nb6 (Nat.le_trans l6 (by decide)) .nil),
    c1, y3, t4, y4', decide_eq_true i3, decide_eq_false (by rw [i4]; exact Int.lt_irrefl _), p1, q1, by rw [lb4]; lia, k4⟩
end
section
open PySem PySem.W PySem.Calls PyProof.Rows PySem.Spec
theorem BnAt.mono {T T' : ALed} (hs : ∀ p ∈ T, p ∈ T') {v : Value} {bn : Option (Int × Int)} (h : BnAt T v bn) : BnAt T' v bn := by
  cases h with
  | none => exact .none
  | some h => exact .some (hs _ h)
theorem lbuf2_H (td sg mkl : Addr) (room ph bv zv : Int) (signs : List Int) (mvs : List Value) (marks : List (Int × Bool)) (T : ALed) (bnV : Value) (bn : Option (Int × Int)) (htd : (td, AO.tup [.int room 0, .ref sg, .int ph 0, .ref mkl, bnV]) ∈ T) (hmk : (mkl, AO.list mvs) ∈ T) (hms : TPs T mvs marks) (hbn : BnAt T bnV bn)
    (h0 : 0 ≤ room) (h1 : room ≤ 100) (hs : signs ≠ []) (hz : signs.length ≤ 100) (hp : ∀ m ∈ marks, 1 ≤ m.1 ∧ m.1 ≤ signs.length + 1) (hml : marks.length ≤ 20) (hb : (bn = none ∧ bv = 1 ∧ zv = 1 + signs.length) ∨ bn = some (bv, zv)) (hb1 : 1 ≤ bv) (hb2 : bv ≤ zv) (hb3 : zv ≤ signs.length + 1) :
    HSpec 6 769 [.ref td] ((sg, .list (iv signs)) :: T) fun K => ∀ r b x cl mx rd ln om pt A G B ms, A ++ B = signs → A.length + G.length + B.length ≤ 1000 → MsOf ms marks →
      K (.ref r) ((r, .tup [.ref b, .ref om]) :: lbL b x cl mx rd ln om room pt bv zv A G B ms T) := by
  rcases hb with ⟨rfl, rfl, rfl⟩ | rfl
  · exact lbuf_H td sg mkl room ph signs mvs marks T bnV none htd hmk hms hbn h0 h1 hs hz hp hml nofun
  · exact lbuf_H td sg mkl room ph signs mvs marks T bnV (some (bv, zv)) htd hmk hms hbn h0 h1 hs hz hp hml fun lo hi e => by
      obtain ⟨rfl, rfl⟩ := Prod.mk.inj (Option.some.inj e)
      exact ⟨hb1, hb2, hb3⟩
theorem done_S (g : CQ) (q : VQ) (T : ALed) (S : Sem) (st nd more : Int) (ed cr : Addr) (cs : List Int) (ah : Bool) (hcr : (cr, AO.list (iv cs)) ∈ T) (hed : (ed, edT st nd cr ah) ∈ T) (h : StIs g q T S) (hb : 1 ≤ g.bv) (hl : S.rows.length ≤ 600) (ht : S.tx.length ≤ 600) (hok : EdOk g.bv (edOf st nd cs ah more) S.tx S.zv) (hat : AtBd S.rows) (hla : LastRw S.rows (imS S) S.nt S.sv) :
    HSpec 8 776 [.ref g.b, .ref ed, .int more 0] (stL g q T) fun K => donePost g T (edS (edOf st nd cs ah more) S) K := by
  unfold edOf at hok ⊢
  split at hok
  · rename_i e
    rw [if_pos e]
    exact done_i g q T S st nd more ed cr cs ah hcr hed h hb hl ht e hok hla
  · rename_i e
    rw [if_neg e]
    split at hok
    · rename_i e2
      rw [if_pos e2]
      exact done_d g q T S st nd more ed cr cs ah hcr hed h hb hl ht e2 hok hat
    · rename_i e2
      rw [if_neg e2]
      refine done_r g q T S st nd more ed cr cs ah hcr hed h hb hl ht hok hat ?_
      have h1 := note_len S
      have h2 := dists_len (st + more) (nd + more) S.ms
      have h3 := Nat.le_of_ble_eq_true h.mz
      rw [h.ms] at h3
      show (S.rows ++ (noteRows S ++ (mkRows (recS (st + more) (nd + more) S.ms) ++ [RW.d (st + more) (cutL (st + more) (nd + more) S.tx)]))).length ≤ _
      rw [List.length_append, List.length_append, len1_app, mk_len]
      lia
theorem ed_ok {bv s n mo zv : Int} {cs t : List Int} {ah : Bool} (h1 : bv ≤ s + mo) (h2 : s ≤ n) (h3 : n + mo ≤ zv) (h4 : zv ≤ t.length + 1) (h5 : s = n → cs ≠ []) (h6 : cs.length ≤ 3) : EdOk bv (edOf s n cs ah mo) t zv := by
  have h7 : cs.length ≤ 100 := Nat.le_trans h6 (by decide)
  unfold edOf
  split
  · rename_i e
    exact ⟨h5 e, h7, h1, by rw [e]; exact h3, h4⟩
  · split
    · exact ⟨h1, by lia, h3, h4⟩
    · rename_i e
      exact ⟨e, h7, h1, by lia, h3, h4⟩
theorem ed_len {bv s n mo : Int} {cs : List Int} {ah : Bool} {S : Sem} (hb : 1 ≤ bv) (h : EdOk bv (edOf s n cs ah mo) S.tx S.zv) : ((edS (edOf s n cs ah mo) S).tx.length : Int) = S.tx.length + cs.length - (n - s) ∧ (edS (edOf s n cs ah mo) S).zv = S.zv + cs.length - (n - s) := by
  unfold edOf at h ⊢
  split at h
  · rename_i e
    rw [if_pos e]
    obtain ⟨f1, f2, f3, f4, f5⟩ := h
    have k := ins_len (t := S.tx) (cs := cs) (Int.le_trans hb f3) (Int.le_trans f4 f5)
    subst e
    exact ⟨by show ((insT (s + mo) cs S.tx).length : Int) = _; rw [k, Int.sub_self, Int.sub_zero], by show S.zv + cs.length = _; rw [Int.sub_self, Int.sub_zero]⟩
  · rename_i e
    rw [if_neg e]
    split at h
    · rename_i e2
      rw [if_pos e2]
      obtain ⟨f1, f2, f3, f4⟩ := h
      have k := del_len (t := S.tx) (Int.le_trans hb f1) f2 (Int.le_trans f3 f4)
      subst e2
      exact ⟨by show ((delT (s + mo) (n + mo) S.tx).length : Int) = _; rw [k, List.length_nil]; lia, by show S.zv - (n + mo - (s + mo)) = _; rw [List.length_nil]; lia⟩
    · rename_i e2
      rw [if_neg e2]
      obtain ⟨f0, f00, f1, f2, f3, f4⟩ := h
      have k := del_len (t := S.tx) (Int.le_trans hb f1) f2 (Int.le_trans f3 f4)
      have k2 := ins_len (t := delT (s + mo) (n + mo) S.tx) (cs := cs) (p := s + mo) (Int.le_trans hb f1) (by rw [k]; lia)
      exact ⟨by show ((insT (s + mo) cs (delT (s + mo) (n + mo) S.tx)).length : Int) = _; rw [k2, k]; lia, by show S.zv - (n + mo - (s + mo)) + cs.length = _; lia⟩
structure TSt (T : ALed) (d a : Addr) (S : Sem) : Prop where
  ex : ∃ p, (d, AO.tup [.ref a, .ref p]) ∈ T ∧ (p, AO.list (iv (S.ms.map (·.y)))) ∈ T
  tx : (a, AO.list (iv S.tx)) ∈ T
theorem TSt.mono {T T' : ALed} (hs : ∀ p ∈ T, p ∈ T') {d a : Addr} {S : Sem} (h : TSt T d a S) : TSt T' d a S := ⟨h.1.imp fun _ h => ⟨hs _ h.1, hs _ h.2⟩, hs _ h.2⟩
noncomputable abbrev dTx (t : List Int) : PyData := .list (t.map PyData.int)
noncomputable abbrev dSt (t ys : List Int) : PyData := .tuple [dTx t, dTx ys]
noncomputable abbrev dFF (t1 y1 t2 y2 : List Int) : PyData := .list [.tuple [dSt t1 y1, .bool true], .tuple [dSt t2 y2, .bool false]]
noncomputable abbrev dTT (t1 t2 : List Int) : PyData := .list [dTx t1, dTx t2]
theorem TSt.ad {T : ALed} {d a : Addr} {S : Sem} (h : TSt T d a S) {led : ALed} (hs : ∀ p ∈ T, p ∈ led) : AD led (.ref d) (dSt S.tx (S.ms.map (·.y))) := by
  obtain ⟨⟨p, h1, h2⟩, h3⟩ := h
  exact .tup (hs _ h1) (.cons (.list (hs _ h3) (ads_iv _)) (.cons (.list (hs _ h2) (ads_iv _)) .nil))
theorem canTx (t : List Int) : (dTx t).canLay0 = true := canLayI t
theorem depTx (t : List Int) : (dTx t).depth = 1 := by show PyData.depthAll _ + 1 = 1; rw [depthI]
theorem canSt (t y : List Int) : (dSt t y).canLay0 = true := by
  show ((dTx t).canLay0 && ((dTx y).canLay0 && true)) = true
  rw [canTx, canTx]; rfl
theorem depSt (t y : List Int) : (dSt t y).depth = 2 := by
  show max (dTx t).depth (max (dTx y).depth 0) + 1 = 2
  rw [depTx, depTx]; rfl
theorem canFF (t1 y1 t2 y2 : List Int) : (dFF t1 y1 t2 y2).canLay0 = true := by
  show (((dSt t1 y1).canLay0 && true) && (((dSt t2 y2).canLay0 && true) && true)) = true
  rw [canSt, canSt]; rfl
theorem shFF (t1 y1 t2 y2 : List Int) : SeqAt.shaped (dFF t1 y1 t2 y2) = true := by
  show ((dFF t1 y1 t2 y2).canLay0 && decide (max (max (dSt t1 y1).depth (max 0 0) + 1) (max (max (dSt t2 y2).depth (max 0 0) + 1) 0) + 1 ≤ 64)) = true
  rw [canFF, depSt, depSt]; rfl
theorem eqFF (t1 y1 t2 y2 : List Int) : PyData.eqv (dFF t1 y1 t2 y2) (dFF t1 y1 t2 y2) = true := PySem.SeqAt.eqv_refl _ (canFF _ _ _ _)
theorem canTT (t1 t2 : List Int) : (dTT t1 t2).canLay0 = true := by
  show ((dTx t1).canLay0 && ((dTx t2).canLay0 && true)) = true
  rw [canTx, canTx]; rfl
theorem shTT (t1 t2 : List Int) : SeqAt.shaped (dTT t1 t2) = true := by
  show ((dTT t1 t2).canLay0 && decide (max (dTx t1).depth (max (dTx t2).depth 0) + 1 ≤ 64)) = true
  rw [canTT, depTx, depTx]; rfl
theorem eqTT (t1 t2 : List Int) : PyData.eqv (dTT t1 t2) (dTT t1 t2) = true := PySem.SeqAt.eqv_refl _ (canTT _ _)
theorem FEs.two {T : ALed} {vs : List Value} {S3 S4 : Sem} (h : FEs T vs [S3, S4]) : ∃ t1 t2 d1 d2 a1 a2, vs = [.ref t1, .ref t2] ∧ (t1, AO.tup [.ref d1, .bool (imS S3)]) ∈ T ∧ (t2, AO.tup [.ref d2, .bool (imS S4)]) ∈ T ∧ TSt T d1 a1 S3 ∧ TSt T d2 a2 S4 := by
  cases h with
  | cons h1 h2 h3 h4 h =>
    cases h with
    | cons g1 g2 g3 g4 h =>
      cases h
      exact ⟨_, _, _, _, _, _, rfl, h1, g1, ⟨⟨_, h2, h4⟩, h3⟩, ⟨⟨_, g2, g4⟩, g3⟩⟩
theorem LwO.bz {N : Nat} {s1 n1 s2 n2 : Int} {bn : Option (Int × Int)} (h : LwO N s1 n1 s2 n2 bn) (l1 : s1 ≤ n1) : ∃ bv zv : Int, ((bn = none ∧ bv = 1 ∧ zv = 1 + N) ∨ bn = some (bv, zv)) ∧ 1 ≤ bv ∧ bv ≤ s1 ∧ bv ≤ s2 ∧ n1 ≤ zv ∧ n2 ≤ zv ∧ zv ≤ N + 1 := by
  cases bn with
  | none => exact ⟨1, 1 + N, .inl ⟨rfl, rfl, rfl⟩, Int.le_refl _, h.2.1.1, h.2.1.2.1, by have := h.2.1.2.2.1; lia, by have := h.2.1.2.2.2; lia, by lia⟩
  | some p => exact ⟨p.1, p.2, .inr rfl, h.2.2 _ _ rfl⟩
noncomputable def mo2 (s1 n1 s2 : Int) (cs1 : List Int) : Int := if s2 < s1 then 0 else cs1.length - (n1 - s1)
inductive TSs (T : ALed) : List Value → List Sem → Prop
  | nil : TSs T [] []
  | cons {d a S vs l} : TSt T d a S → TSs T vs l → TSs T (.ref d :: vs) (S :: l)
theorem TSs.mono {T T' : ALed} (hs : ∀ p ∈ T, p ∈ T') {vs : List Value} {l : List Sem} (h : TSs T vs l) : TSs T' vs l := by
  induction h with
  | nil => exact .nil
  | cons h _ ih => exact .cons (h.mono hs) ih
theorem TSs.app {T : ALed} {vs vs' : List Value} {l l' : List Sem} (h : TSs T vs l) (h' : TSs T vs' l') : TSs T (vs ++ vs') (l ++ l') := by
  induction h with
  | nil => exact h'
  | cons h _ ih => exact .cons h ih
theorem TSs.len {T : ALed} {vs : List Value} {l : List Sem} (h : TSs T vs l) : vs.length = l.length := by
  induction h with
  | nil => rfl
  | cons _ _ ih => rw [List.length_cons, List.length_cons, ih]
theorem TSs.three {T : ALed} {vs : List Value} {S0 A1 A2 : Sem} (h : TSs T vs [S0, A1, A2]) : ∃ d0 d1 d2 a0 a1 a2, vs = [.ref d0, .ref d1, .ref d2] ∧ TSt T d0 a0 S0 ∧ TSt T d1 a1 A1 ∧ TSt T d2 a2 A2 := by
  cases h with
  | cons h1 h =>
    cases h with
    | cons h2 h =>
      cases h with
      | cons h3 h => cases h; exact ⟨_, _, _, _, _, _, rfl, h1, h2, h3⟩
noncomputable def sq (S0 A1 A2 : Sem) : Nat → Sem
  | 0 => S0
  | 1 => A1
  | _ => A2
noncomputable def sl (S0 A1 A2 : Sem) : Nat → List Sem
  | 0 => [S0]
  | 1 => [S0, A1]
  | _ => [S0, A1, A2]
inductive LwT (T : ALed) (bv : Int) (ps : List Addr) (S0 A1 A2 : Sem) (s1 n1 : Int) (cs1 : List Int) (s2 : Int) (i : Nat) (v : Value)  : Prop
  | mk (e c : Addr) (s n : Int) (cs : List Int) (ah : Bool) (mo : Int) (f0 : v = .ref e) (f1 : LwE T e c s n cs ah) (f2 : ((i = 0 ∧ mo = 0) ∨ (i = 1 ∧ s = s2 ∧ mo = mo2 s1 n1 s2 cs1))) (f3 : EdOk bv (edOf s n cs ah mo) (sq S0 A1 A2 i).tx (sq S0 A1 A2 i).zv) (f4 : AtBd (sq S0 A1 A2 i).rows) (f5 : LastRw (sq S0 A1 A2 i).rows (imS (sq S0 A1 A2 i)) (sq S0 A1 A2 i).nt (sq S0 A1 A2 i).sv) (f6 : (sq S0 A1 A2 i).rows.length ≤ 600) (f7 : (sq S0 A1 A2 i).tx.length ≤ 600) (f8 : sq S0 A1 A2 (i + 1) = bndS (edS (edOf s n cs ah mo) (sq S0 A1 A2 i))) (f9 : ¬ AtBd (edS (edOf s n cs ah mo) (sq S0 A1 A2 i)).rows) (f10 : (edS (edOf s n cs ah mo) (sq S0 A1 A2 i)).rows.length ≤ 900) (f11 : (sq S0 A1 A2 (i + 1)).ms.map (·.p) = ps) (f12 : sl S0 A1 A2 (i + 1) = sl S0 A1 A2 i ++ [sq S0 A1 A2 (i + 1)]) (f13 : (sl S0 A1 A2 i).length ≤ 3)
theorem law_plain {bv zv s1 n1 s2 n2 : Int} {cs1 cs2 ss : List Int} {ah1 ah2 : Bool} {ms : List MQ} (hnd : (ms.map (·.p)).Nodup) (hl3 : ms.length ≤ 3) (hss : ss.length ≤ 12) (h1 : s1 ≤ n1) (h2 : s2 ≤ n2) (c1 : s1 = n1 → cs1 ≠ []) (c2 : s2 = n2 → cs2 ≠ []) (l1 : cs1.length ≤ 3) (l2 : cs2.length ≤ 3)
    (ho : n1 < s2 ∨ n2 < s1) (b1 : 1 ≤ bv) (b2 : bv ≤ s1) (b3 : bv ≤ s2) (b4 : n1 ≤ zv) (b5 : n2 ≤ zv) (b6 : zv ≤ ss.length + 1) {S0 A1 A2 : Sem} (e0 : S0 = ⟨ss, ms, zv, 1 + 1, 1 + 1, none, []⟩) (e1 : A1 = bndS (edS (edOf s1 n1 cs1 ah1 0) S0)) (e2 : A2 = bndS (edS (edOf s2 n2 cs2 ah2 (mo2 s1 n1 s2 cs1)) A1)) :
    EdOk bv (edOf s1 n1 cs1 ah1 0) S0.tx S0.zv ∧ EdOk bv (edOf s2 n2 cs2 ah2 (mo2 s1 n1 s2 cs1)) A1.tx A1.zv ∧ A1.tx.length ≤ 40 ∧ A2.tx.length ≤ 60 := by
  have k1 : EdOk bv (edOf s1 n1 cs1 ah1 0) S0.tx S0.zv := by subst e0; exact ed_ok (by lia) h1 (by lia) b6 c1 l1
  have z1 := ed_len b1 k1
  have t1 : (A1.tx.length : Int) = ss.length + cs1.length - (n1 - s1) := by rw [e1]; show ((edS _ S0).tx.length : Int) = _; rw [z1.1, e0]
  have v1 : A1.zv = zv + cs1.length - (n1 - s1) := by rw [e1]; show (edS _ S0).zv = _; rw [z1.2, e0]
  have k2 : EdOk bv (edOf s2 n2 cs2 ah2 (mo2 s1 n1 s2 cs1)) A1.tx A1.zv := by
    unfold mo2
    split
    · exact ed_ok (by lia) h2 (by rw [v1]; lia) (by rw [v1, t1]; lia) c2 l2
    · exact ed_ok (by lia) h2 (by rw [v1]; lia) (by rw [v1, t1]; lia) c2 l2
  have z2 := ed_len b1 k2
  have t2 : (A2.tx.length : Int) = A1.tx.length + cs2.length - (n2 - s2) := by rw [e2]; show ((edS _ A1).tx.length : Int) = _; rw [z2.1]
  exact ⟨k1, k2, by lia, by lia⟩
section
variable {F : Fn} {lev : Nat} {c : Cx} {lo : Lo} {led : ALed} {a : Expr} {l : Addr} {t : Tok} {v0 v1 v2 : Value} {pos p2 : Pos}
theorem Ev.l0 (he : Ev F lev c lo led a (.ref l)) (hm : (l, AO.list [v0, v1, v2]) ∈ led) : Ev F lev c lo led (.Subscript a (.Constant (.int 0) t p2) pos) v0 := Ev.item he Ev.int hm (Int.le_refl _) (by decide : 3 < 2 ^ 62) rfl
theorem Ev.l1 (he : Ev F lev c lo led a (.ref l)) (hm : (l, AO.list [v0, v1, v2]) ∈ led) : Ev F lev c lo led (.Subscript a (.Constant (.int 1) t p2) pos) v1 := Ev.item he Ev.int hm (by decide : (0 : Int) ≤ 1) (by decide : 3 < 2 ^ 62) rfl
theorem Ev.l2 (he : Ev F lev c lo led a (.ref l)) (hm : (l, AO.list [v0, v1, v2]) ∈ led) : Ev F lev c lo led (.Subscript a (.Constant (.int 2) t p2) pos) v2 := Ev.item he Ev.int hm (by decide : (0 : Int) ≤ 2) (by decide : 3 < 2 ^ 62) rfl
end
theorem law_turn {T : ALed} {bv s1 n1 s2 n2 : Int} {ps : List Addr} {cs1 cs2 : List Int} {ah1 ah2 : Bool} {S0 A1 A2 : Sem} {e1 c1 e2 c2 : Addr} (hL1 : LwE T e1 c1 s1 n1 cs1 ah1) (hL2 : LwE T e2 c2 s2 n2 cs2 ah2) (h1 : EdOk bv (edOf s1 n1 cs1 ah1 0) S0.tx S0.zv) (h2 : EdOk bv (edOf s2 n2 cs2 ah2 (mo2 s1 n1 s2 cs1)) A1.tx A1.zv)
    (hr : S0.rows = []) (hs : S0.sv = S0.nk) (hn : S0.nt = none) (hl : S0.tx.length ≤ 20) (e_1 : A1 = bndS (edS (edOf s1 n1 cs1 ah1 0) S0)) (hl1 : A1.tx.length ≤ 40) (e_2 : A2 = bndS (edS (edOf s2 n2 cs2 ah2 (mo2 s1 n1 s2 cs1)) A1))
    (b1 : ¬ AtBd (edS (edOf s1 n1 cs1 ah1 0) S0).rows) (b2 : ¬ AtBd (edS (edOf s2 n2 cs2 ah2 (mo2 s1 n1 s2 cs1)) A1).rows) (r1 : (edS (edOf s1 n1 cs1 ah1 0) S0).rows.length ≤ 100) (r2 : (edS (edOf s2 n2 cs2 ah2 (mo2 s1 n1 s2 cs1)) A1).rows.length ≤ 100) (p1 : A1.ms.map (·.p) = ps) (p2 : A2.ms.map (·.p) = ps) (i : Nat) (v : Value) (hv : [Value.ref e1, .ref e2][i]? = some v) : LwT T bv ps S0 A1 A2 s1 n1 cs1 s2 i v := by
  match i, hv with
  | 0, hv =>
    refine ⟨e1, c1, s1, n1, cs1, ah1, 0, (Option.some.inj hv).symm, hL1, .inl ⟨rfl, rfl⟩, h1, .inl hr, .inl ?_, ?_, Nat.le_trans hl (by decide), e_1, b1, Nat.le_trans r1 (by decide), p1, rfl, by show 1 ≤ 3; decide⟩
    · show unB (imS S0) S0.nt S0.sv = true
      unfold unB imS
      rw [hn, hs, decide_eq_false (Int.lt_irrefl _)]; rfl
    · show S0.rows.length ≤ 600
      rw [hr]; exact Nat.zero_le _
  | 1, hv =>
    have hb : A1.rows = (edS (edOf s1 n1 cs1 ah1 0) S0).rows ++ [.b] := by rw [e_1]; rfl
    refine ⟨e2, c2, s2, n2, cs2, ah2, _, (Option.some.inj hv).symm, hL2, .inr ⟨rfl, rfl, rfl⟩, h2, .inr ⟨_, hb⟩, .inr ⟨_, _, hb, .inl rfl⟩, ?_, Nat.le_trans hl1 (by decide), e_2, b2, Nat.le_trans r2 (by decide), p2, rfl, by show 2 ≤ 3; decide⟩
    show A1.rows.length ≤ 600
    rw [hb, len1_app]; exact Nat.le_trans (Nat.succ_le_succ r1) (by decide)
  | i + 2, hv => cases hv
inductive LwF (aS sg mk sl0 om e1 e2 : Addr) (ss : List Int) (ps : List Addr) (jB jC : Int) (x2 x3 x4 x5 x6 : Option Value) (bnV : Value) (g : CQ) (T : ALed) (S0 A1 A2 : Sem) (i : Nat) (lo : Lo) (led : ALed) : Prop
  | mk (ya ye yf : Option Value) (ds : List Value) (q1 : VQ) (T1 : ALed) (f0 : lo = lwLo aS (some (.int ss.length 0)) (some (.int jB 0)) (some (.ref sg)) (some (.int (1 + jC) 0)) (some (.ref mk)) ya x2 x3 x4 x5 x6 (some (.ref e1)) (some (.ref e2)) (some bnV) (some (.ref g.b)) (some (.ref om)) (some (.ref sl0)) ye yf none) (f1 : StIs g q1 T1 (sq S0 A1 A2 i)) (f2 : (∀ p ∈ T, p ∈ T1)) (f3 : TSs T1 ds (sl S0 A1 A2 i)) (f4 : led = (sl0, .list ds) :: (om, .list (ps.map .ref)) :: stL g q1 T1)
end
section
theorem lawx.tw10091011405829981502 : True := trivial
theorem lawx.tw10091854660125246853 : True := trivial
theorem lawx.tw10093278242722548891 : True := trivial
theorem lawx.tw10101307531395794629 : True := trivial
theorem lawx.tw10107517469506825499 : True := trivial
theorem lawx.tw10153998198216094514 : True := trivial
theorem lawx.tw1017799841234903924 : True := trivial
theorem lawx.tw10187188590991645963 : True := trivial
theorem lawx.tw10206921798211657899 : True := trivial
theorem lawx.tw10211473497858915565 : True := trivial
theorem lawx.tw10215806411670422537 : True := trivial
theorem lawx.tw1023196431875570516 : True := trivial
theorem lawx.tw10233504534798178881 : True := trivial
theorem lawx.tw10240737048860196848 : True := trivial
theorem lawx.tw10262551062933246784 : True := trivial
theorem lawx.tw1026386132542032276 : True := trivial
theorem lawx.tw10306200429287247876 : True := trivial
theorem lawx.tw10318187758872642898 : True := trivial
theorem lawx.tw10318544777445755707 : True := trivial
theorem lawx.tw10359715061296331348 : True := trivial
theorem lawx.tw10369375051898804675 : True := trivial
theorem lawx.tw10378636178346991897 : True := trivial
theorem lawx.tw10402095981312166719 : True := trivial
theorem lawx.tw10465398145539794702 : True := trivial
theorem lawx.tw10483660875021055833 : True := trivial
theorem lawx.tw10489569142576531646 : True := trivial
theorem lawx.tw10533214878137926569 : True := trivial
theorem lawx.tw10569231119313767515 : True := trivial
theorem lawx.tw10588770750080234752 : True := trivial
theorem lawx.tw1062379421004112631 : True := trivial
theorem lawx.tw10626560349671527330 : True := trivial
theorem lawx.tw10674181976819577579 : True := trivial
theorem lawx.tw10697750404222442745 : True := trivial
theorem lawx.tw10716198561495204313 : True := trivial
theorem lawx.tw10740538271516627571 : True := trivial
theorem lawx.tw10742511042353722571 : True := trivial
theorem lawx.tw1074350152372542725 : True := trivial
theorem lawx.tw10775735154975776957 : True := trivial
theorem lawx.tw1078047595898470239 : True := trivial
theorem lawx.tw10790648577365338431 : True := trivial
theorem lawx.tw1082513371286586819 : True := trivial
theorem lawx.tw10835508340763344065 : True := trivial
theorem lawx.tw10856195821613709417 : True := trivial
theorem lawx.tw10868124216533206586 : True := trivial
theorem lawx.tw10868986176240405790 : True := trivial
theorem lawx.tw10874655925353947283 : True := trivial
theorem lawx.tw10877144580164112117 : True := trivial
theorem lawx.tw10921098021004080986 : True := trivial
theorem lawx.tw10975376488387052142 : True := trivial
theorem lawx.tw10992443056525115395 : True := trivial
theorem lawx.tw11005030666161021312 : True := trivial
theorem lawx.tw11034297339092402054 : True := trivial
theorem lawx.tw11071221067438670541 : True := trivial
theorem lawx.tw11108765139870089119 : True := trivial
theorem lawx.tw11123355687188661594 : True := trivial
theorem lawx.tw11150624569642804743 : True := trivial
theorem lawx.tw11174567687808640420 : True := trivial
theorem lawx.tw11175720823947542269 : True := trivial
theorem lawx.tw11213671207540274170 : True := trivial
theorem lawx.tw11214135325232467276 : True := trivial
theorem lawx.tw11226542131291176653 : True := trivial
theorem lawx.tw11247952235631882432 : True := trivial
theorem lawx.tw11263932895590297561 : True := trivial
theorem lawx.tw11266213021639815369 : True := trivial
theorem lawx.tw11293919246295528003 : True := trivial
theorem lawx.tw11309569289644356405 : True := trivial
theorem lawx.tw11377387600377875975 : True := trivial
theorem lawx.tw11402005871762610338 : True := trivial
theorem lawx.tw11488156015738545209 : True := trivial
theorem lawx.tw11498813714384970039 : True := trivial
theorem lawx.tw11531611601982625396 : True := trivial
theorem lawx.tw11539286110906604223 : True := trivial
theorem lawx.tw1157056728932493110 : True := trivial
theorem lawx.tw11576918598895995920 : True := trivial
theorem lawx.tw11588863224247945911 : True := trivial
theorem lawx.tw11689416504381273360 : True := trivial
theorem lawx.tw11708299512078218884 : True := trivial
theorem lawx.tw11733121984595709971 : True := trivial
theorem lawx.tw11734734241573605 : True := trivial
theorem lawx.tw11755405479827625131 : True := trivial
theorem lawx.tw11775807266962513056 : True := trivial
theorem lawx.tw11800380713730044470 : True := trivial
theorem lawx.tw11822892290815579136 : True := trivial
theorem lawx.tw11832402217027366249 : True := trivial
theorem lawx.tw11835876732155022002 : True := trivial
theorem lawx.tw11849970382225368698 : True := trivial
theorem lawx.tw11891390360013836979 : True := trivial
theorem lawx.tw11903646459516791971 : True := trivial
theorem lawx.tw11910936926410964374 : True := trivial
theorem lawx.tw11962316736802581557 : True := trivial
theorem lawx.tw11975279074964650662 : True := trivial
theorem lawx.tw11981987626521173434 : True := trivial
theorem lawx.tw11995842927220123839 : True := trivial
theorem lawx.tw1202564752954387708 : True := trivial
theorem lawx.tw12056068152539657905 : True := trivial
theorem lawx.tw12056582868844951797 : True := trivial
theorem lawx.tw1206626014190229104 : True := trivial
theorem lawx.tw12079125149065319611 : True := trivial
theorem lawx.tw12084956626931590604 : True := trivial
theorem lawx.tw12095819914346033850 : True := trivial
theorem lawx.tw12105851145218075294 : True := trivial
theorem lawx.tw12137049292854998715 : True := trivial
theorem lawx.tw12137546784769761215 : True := trivial
theorem lawx.tw12141918820208824642 : True := trivial
theorem lawx.tw12172704895631622991 : True := trivial
theorem lawx.tw12177050591538997686 : True := trivial
theorem lawx.tw12209241268153602129 : True := trivial
theorem lawx.tw12234332084096583083 : True := trivial
theorem lawx.tw12271735964801764235 : True := trivial
theorem lawx.tw12312858142400322012 : True := trivial
theorem lawx.tw12322860499470223547 : True := trivial
theorem lawx.tw12323160345384005737 : True := trivial
theorem lawx.tw12342776496831586222 : True := trivial
theorem lawx.tw12350929344235560361 : True := trivial
theorem lawx.tw12353050346215207074 : True := trivial
theorem lawx.tw12378441444743712582 : True := trivial
theorem lawx.tw12395791839949118153 : True := trivial
theorem lawx.tw12418119001444499477 : True := trivial
theorem lawx.tw12440378513913053222 : True := trivial
theorem lawx.tw12463701878575003183 : True := trivial
theorem lawx.tw12466823250265542530 : True := trivial
theorem lawx.tw12501314690381197424 : True := trivial
theorem lawx.tw12509094227523059881 : True := trivial
theorem lawx.tw12557011931769018552 : True := trivial
theorem lawx.tw12565578409402064618 : True := trivial
theorem lawx.tw12568249872790116781 : True := trivial
theorem lawx.tw12568641001076274272 : True := trivial
theorem lawx.tw12600809117865035585 : True := trivial
theorem lawx.tw12611564386377362530 : True := trivial
theorem lawx.tw12629012887909060210 : True := trivial
theorem lawx.tw12632451365450672015 : True := trivial
theorem lawx.tw12639421044683722817 : True := trivial
theorem lawx.tw12639841691753725998 : True := trivial
theorem lawx.tw12659610246921110603 : True := trivial
theorem lawx.tw12667095929062642016 : True := trivial
theorem lawx.tw12680383266735890433 : True := trivial
theorem lawx.tw1268636732412974141 : True := trivial
theorem lawx.tw12713389577329096973 : True := trivial
theorem lawx.tw12717405517375074681 : True := trivial
theorem lawx.tw12723258182735233892 : True := trivial
theorem lawx.tw12732498842750337433 : True := trivial
theorem lawx.tw12737228601462800255 : True := trivial
theorem lawx.tw12751802958836755425 : True := trivial
theorem lawx.tw1277433837876803013 : True := trivial
theorem lawx.tw12775154945161492290 : True := trivial
theorem lawx.tw12820133437919112322 : True := trivial
theorem lawx.tw1286151917080760768 : True := trivial
theorem lawx.tw12889959137696733703 : True := trivial
theorem lawx.tw12934956009043739785 : True := trivial
theorem lawx.tw12954966444084524330 : True := trivial
theorem lawx.tw12965675786512438639 : True := trivial
theorem lawx.tw12972562965602638686 : True := trivial
theorem lawx.tw12975631077301321657 : True := trivial
theorem lawx.tw12982677364198685444 : True := trivial
theorem lawx.tw13012304328393324212 : True := trivial
theorem lawx.tw13027438193120459497 : True := trivial
theorem lawx.tw13065781265735347374 : True := trivial
theorem lawx.tw1306695348105642002 : True := trivial
theorem lawx.tw13105841434483819279 : True := trivial
theorem lawx.tw1315005223306705559 : True := trivial
theorem lawx.tw13173265472166299304 : True := trivial
theorem lawx.tw13174696440540276573 : True := trivial
theorem lawx.tw13187989190889981544 : True := trivial
theorem lawx.tw13214170096783011793 : True := trivial
theorem lawx.tw13234865123510297997 : True := trivial
theorem lawx.tw13247916412547140338 : True := trivial
theorem lawx.tw13261207950997892674 : True := trivial
theorem lawx.tw13281126919590065496 : True := trivial
theorem lawx.tw1334566907951701096 : True := trivial
theorem lawx.tw13346802046986598487 : True := trivial
theorem lawx.tw13355738897690136580 : True := trivial
theorem lawx.tw13373301801247110162 : True := trivial
theorem lawx.tw13395891964381079018 : True := trivial
theorem lawx.tw13397848180188735625 : True := trivial
theorem lawx.tw13445825696625055133 : True := trivial
theorem lawx.tw13451164902315528983 : True := trivial
theorem lawx.tw13479953489167616048 : True := trivial
theorem lawx.tw13527904103624651736 : True := trivial
theorem lawx.tw13603802011209412807 : True := trivial
theorem lawx.tw13608167597878667759 : True := trivial
theorem lawx.tw13692749229976564883 : True := trivial
theorem lawx.tw13698634805778796379 : True := trivial
theorem lawx.tw13706308490176151536 : True := trivial
theorem lawx.tw13707633644311439942 : True := trivial
theorem lawx.tw13722329968695086653 : True := trivial
theorem lawx.tw13760671479336753165 : True := trivial
theorem lawx.tw13769295532564962313 : True := trivial
theorem lawx.tw13822492635529860471 : True := trivial
theorem lawx.tw1382294929848941011 : True := trivial
theorem lawx.tw13839234610552657840 : True := trivial
theorem lawx.tw1387557917761900333 : True := trivial
theorem lawx.tw1387984350036856413 : True := trivial
theorem lawx.tw13885726604422822552 : True := trivial
theorem lawx.tw13894898249561945590 : True := trivial
theorem lawx.tw13898173939426379015 : True := trivial
theorem lawx.tw13900263622552010577 : True := trivial
theorem lawx.tw13940392483036953802 : True := trivial
theorem lawx.tw14012757286415242246 : True := trivial
theorem lawx.tw14015855593618506429 : True := trivial
theorem lawx.tw14029648110372049272 : True := trivial
theorem lawx.tw14064289124809991756 : True := trivial
theorem lawx.tw1406722375026868050 : True := trivial
theorem lawx.tw14067418589704945037 : True := trivial
theorem lawx.tw1409023167933098354 : True := trivial
theorem lawx.tw14094158278389289643 : True := trivial
theorem lawx.tw1409725810664373853 : True := trivial
theorem lawx.tw14116315928366966245 : True := trivial
theorem lawx.tw14137081902369141709 : True := trivial
theorem lawx.tw14158043188532977530 : True := trivial
theorem lawx.tw14171117153904203569 : True := trivial
theorem lawx.tw14248673617536822558 : True := trivial
theorem lawx.tw14319968774873528349 : True := trivial
theorem lawx.tw14351893182503301855 : True := trivial
theorem lawx.tw14355721682441971279 : True := trivial
theorem lawx.tw14368335650883977209 : True := trivial
theorem lawx.tw14395224396826719283 : True := trivial
theorem lawx.tw14436217143518372143 : True := trivial
theorem lawx.tw14452773735276584378 : True := trivial
theorem lawx.tw14466260765296580343 : True := trivial
theorem lawx.tw14466946624720017132 : True := trivial
theorem lawx.tw14484940387027938582 : True := trivial
theorem lawx.tw14510820204199138101 : True := trivial
theorem lawx.tw1453345226462572222 : True := trivial
theorem lawx.tw14559978715339473032 : True := trivial
theorem lawx.tw14594158403221498652 : True := trivial
theorem lawx.tw14611638262464676324 : True := trivial
theorem lawx.tw14612141977249276342 : True := trivial
theorem lawx.tw14647086806253045303 : True := trivial
theorem lawx.tw14654590372050461971 : True := trivial
theorem lawx.tw14719445181273339782 : True := trivial
theorem lawx.tw14720424135866943780 : True := trivial
theorem lawx.tw14756213678625675052 : True := trivial
theorem lawx.tw14764234968706276963 : True := trivial
theorem lawx.tw14785529473963295217 : True := trivial
theorem lawx.tw14813543011729025159 : True := trivial
theorem lawx.tw14820750438424357196 : True := trivial
theorem lawx.tw14841514130158224167 : True := trivial
theorem lawx.tw14869226716985285479 : True := trivial
theorem lawx.tw14879183744664512366 : True := trivial
theorem lawx.tw14894849738639281003 : True := trivial
theorem lawx.tw14918042842659329677 : True := trivial
theorem lawx.tw14931323747221915034 : True := trivial
theorem lawx.tw14932814637846074062 : True := trivial
theorem lawx.tw14957397233124642539 : True := trivial
theorem lawx.tw14969694521353301338 : True := trivial
theorem lawx.tw15008031564196550156 : True := trivial
theorem lawx.tw15014654609447604727 : True := trivial
theorem lawx.tw15018488437098415163 : True := trivial
theorem lawx.tw15043271179966490367 : True := trivial
theorem lawx.tw15122969639514629240 : True := trivial
theorem lawx.tw15143435385808492638 : True := trivial
theorem lawx.tw15152943105659823496 : True := trivial
theorem lawx.tw15209962438754978421 : True := trivial
theorem lawx.tw1521764497585077692 : True := trivial
theorem lawx.tw15246844760211973573 : True := trivial
theorem lawx.tw1524721700963748852 : True := trivial
theorem lawx.tw15293620635440284895 : True := trivial
theorem lawx.tw15307700470473607420 : True := trivial
theorem lawx.tw15327670917057828780 : True := trivial
theorem lawx.tw15349054955384583564 : True := trivial
theorem lawx.tw15350074107535363156 : True := trivial
theorem lawx.tw15351132077839465542 : True := trivial
theorem lawx.tw15380564705614522282 : True := trivial
theorem lawx.tw1538568644854775799 : True := trivial
theorem lawx.tw15398025493865124246 : True := trivial
theorem lawx.tw15463196435284584484 : True := trivial
theorem lawx.tw15483694121152838994 : True := trivial
theorem lawx.tw15484187729914816683 : True := trivial
theorem lawx.tw15492980423280467442 : True := trivial
theorem lawx.tw15517066058075508178 : True := trivial
theorem lawx.tw15534347496271275755 : True := trivial
theorem lawx.tw15620565335223871791 : True := trivial
theorem lawx.tw1562078741138991968 : True := trivial
theorem lawx.tw15640028815113904158 : True := trivial
theorem lawx.tw1566157015931188051 : True := trivial
theorem lawx.tw15661586356724740984 : True := trivial
theorem lawx.tw15666491817960908210 : True := trivial
theorem lawx.tw15667612615052780776 : True := trivial
theorem lawx.tw15671347366657807132 : True := trivial
theorem lawx.tw15696828382582975395 : True := trivial
theorem lawx.tw15715094644078793768 : True := trivial
theorem lawx.tw15737150376640773149 : True := trivial
theorem lawx.tw15761336932057386152 : True := trivial
theorem lawx.tw15763391369136384284 : True := trivial
theorem lawx.tw15766125539131711503 : True := trivial
theorem lawx.tw15780651096214317891 : True := trivial
theorem lawx.tw15788902762631070216 : True := trivial
theorem lawx.tw15819146022739621063 : True := trivial
theorem lawx.tw15821884209083545841 : True := trivial
theorem lawx.tw1588401644416789711 : True := trivial
theorem lawx.tw15910258790401944193 : True := trivial
theorem lawx.tw1601394625827628904 : True := trivial
theorem lawx.tw16027469755869956470 : True := trivial
theorem lawx.tw16040992642619113231 : True := trivial
theorem lawx.tw16046442015020980237 : True := trivial
theorem lawx.tw16050702935204245000 : True := trivial
theorem lawx.tw16079145197323792019 : True := trivial
theorem lawx.tw16087558177117135252 : True := trivial
theorem lawx.tw16092521682804765017 : True := trivial
theorem lawx.tw16138564694701227668 : True := trivial
theorem lawx.tw16146444460133075364 : True := trivial
theorem lawx.tw16167304212734394328 : True := trivial
theorem lawx.tw16213271924513286491 : True := trivial
theorem lawx.tw16224889113378133594 : True := trivial
theorem lawx.tw16268053130850259640 : True := trivial
theorem lawx.tw16329986397245741145 : True := trivial
theorem lawx.tw16396075980955289663 : True := trivial
theorem lawx.tw16412205486439173731 : True := trivial
theorem lawx.tw16412219840580460423 : True := trivial
theorem lawx.tw16435035510752197656 : True := trivial
theorem lawx.tw16437404910115963626 : True := trivial
theorem lawx.tw1645011944662163445 : True := trivial
theorem lawx.tw16475164825948003979 : True := trivial
theorem lawx.tw16482968702249537642 : True := trivial
theorem lawx.tw16483968935608585164 : True := trivial
theorem lawx.tw16485574809438506652 : True := trivial
theorem lawx.tw164857408513515503 : True := trivial
theorem lawx.tw16496915383031896171 : True := trivial
theorem lawx.tw16502935232047143271 : True := trivial
theorem lawx.tw16509804452314699834 : True := trivial
theorem lawx.tw16510987916189747903 : True := trivial
theorem lawx.tw16512948438522836202 : True := trivial
theorem lawx.tw16524138202880948649 : True := trivial
theorem lawx.tw16529100598143523913 : True := trivial
theorem lawx.tw16532948941366898258 : True := trivial
theorem lawx.tw16554526599683786320 : True := trivial
theorem lawx.tw16554755923479866978 : True := trivial
theorem lawx.tw16572761993221427042 : True := trivial
theorem lawx.tw16594914824520290927 : True := trivial
theorem lawx.tw16601911767674821614 : True := trivial
theorem lawx.tw16621062262869538438 : True := trivial
theorem lawx.tw16648290851248295318 : True := trivial
theorem lawx.tw16652428544349911211 : True := trivial
theorem lawx.tw16659991342469535046 : True := trivial
theorem lawx.tw16678037014639890196 : True := trivial
theorem lawx.tw16721181024900454002 : True := trivial
theorem lawx.tw16729812059704081849 : True := trivial
theorem lawx.tw1681421633896518304 : True := trivial
theorem lawx.tw168597137401652433 : True := trivial
theorem lawx.tw16873102940255283910 : True := trivial
theorem lawx.tw16883756748837700203 : True := trivial
theorem lawx.tw16887357903658618087 : True := trivial
theorem lawx.tw1693254584570577568 : True := trivial
theorem lawx.tw16948069997074350010 : True := trivial
theorem lawx.tw16949657527277503040 : True := trivial
theorem lawx.tw16955896489130996335 : True := trivial
theorem lawx.tw16958710599156763169 : True := trivial
theorem lawx.tw16972459181822130953 : True := trivial
theorem lawx.tw16981084358546585389 : True := trivial
theorem lawx.tw16990767955203994867 : True := trivial
theorem lawx.tw17006511504181829101 : True := trivial
theorem lawx.tw17032354445182843140 : True := trivial
theorem lawx.tw17033482708089316939 : True := trivial
theorem lawx.tw1707256595211748184 : True := trivial
theorem lawx.tw17079438722205452847 : True := trivial
theorem lawx.tw17124872699513127088 : True := trivial
theorem lawx.tw17126952650039292491 : True := trivial
theorem lawx.tw17154701635299771598 : True := trivial
theorem lawx.tw17163457695773544100 : True := trivial
theorem lawx.tw17183376206286840242 : True := trivial
theorem lawx.tw17205537796554134181 : True := trivial
theorem lawx.tw17212950452627467288 : True := trivial
theorem lawx.tw1721413913602635319 : True := trivial
theorem lawx.tw17220591345308013019 : True := trivial
theorem lawx.tw17222545091963203558 : True := trivial
theorem lawx.tw17236490352920103069 : True := trivial
theorem lawx.tw17248227862359141914 : True := trivial
theorem lawx.tw17250830647555846513 : True := trivial
theorem lawx.tw17268553172902984690 : True := trivial
theorem lawx.tw1727393049844984764 : True := trivial
theorem lawx.tw17277476418276223661 : True := trivial
theorem lawx.tw17295138773689114646 : True := trivial
theorem lawx.tw1731605704479501251 : True := trivial
theorem lawx.tw17320761245531977773 : True := trivial
theorem lawx.tw17326532611068982575 : True := trivial
theorem lawx.tw17337644776488888077 : True := trivial
theorem lawx.tw17352886794538733843 : True := trivial
theorem lawx.tw1737105126621028083 : True := trivial
theorem lawx.tw17387328023973194672 : True := trivial
theorem lawx.tw17395975149812095469 : True := trivial
theorem lawx.tw17469893763091063178 : True := trivial
theorem lawx.tw17493725015961554756 : True := trivial
theorem lawx.tw17500236279259532256 : True := trivial
theorem lawx.tw1751391890440109255 : True := trivial
theorem lawx.tw17520836411384267225 : True := trivial
theorem lawx.tw17522537476916344657 : True := trivial
theorem lawx.tw17595997286972305325 : True := trivial
theorem lawx.tw17605003347991863556 : True := trivial
theorem lawx.tw17636539069115964888 : True := trivial
theorem lawx.tw17654498450207569595 : True := trivial
theorem lawx.tw17661794860723346243 : True := trivial
theorem lawx.tw176676516175792733 : True := trivial
theorem lawx.tw1774899615090279190 : True := trivial
theorem lawx.tw17776489606042256190 : True := trivial
theorem lawx.tw17780699915887498583 : True := trivial
theorem lawx.tw17842353318977963299 : True := trivial
theorem lawx.tw17846689979248356538 : True := trivial
theorem lawx.tw17949003173949837820 : True := trivial
theorem lawx.tw17965550935118600501 : True := trivial
theorem lawx.tw1797612941448434082 : True := trivial
theorem lawx.tw18036438899504050824 : True := trivial
theorem lawx.tw18048907219414913474 : True := trivial
theorem lawx.tw18055551329419779646 : True := trivial
theorem lawx.tw18092988918140749523 : True := trivial
theorem lawx.tw18095971898089680582 : True := trivial
theorem lawx.tw18099605677933403601 : True := trivial
theorem lawx.tw18111503608063226568 : True := trivial
theorem lawx.tw18112987861319698059 : True := trivial
theorem lawx.tw18118745351620887191 : True := trivial
theorem lawx.tw18134071569706977489 : True := trivial
theorem lawx.tw18138765197926671264 : True := trivial
theorem lawx.tw18198237180581167265 : True := trivial
theorem lawx.tw18236079584811751891 : True := trivial
theorem lawx.tw18278510058632493935 : True := trivial
theorem lawx.tw18327322977038709375 : True := trivial
theorem lawx.tw18346508513674394104 : True := trivial
theorem lawx.tw18352027769550485681 : True := trivial
theorem lawx.tw18356263283756646287 : True := trivial
theorem lawx.tw18391774437420810613 : True := trivial
theorem lawx.tw18395541525195620972 : True := trivial
theorem lawx.tw18405809999173808802 : True := trivial
theorem lawx.tw1850400198556453721 : True := trivial
theorem lawx.tw1854339295609279669 : True := trivial
theorem lawx.tw1862436924139457296 : True := trivial
theorem lawx.tw1877019795951092248 : True := trivial
theorem lawx.tw1891968951605213669 : True := trivial
theorem lawx.tw191740131074937699 : True := trivial
theorem lawx.tw1927807235640733068 : True := trivial
theorem lawx.tw1937417789787165499 : True := trivial
theorem lawx.tw1973637930127849487 : True := trivial
theorem lawx.tw1989440988605935663 : True := trivial
theorem lawx.tw2065433866096398134 : True := trivial
theorem lawx.tw2071434872431196053 : True := trivial
theorem lawx.tw2076728962504034504 : True := trivial
theorem lawx.tw2112711087789554407 : True := trivial
theorem lawx.tw2141901155384942421 : True := trivial
theorem lawx.tw2144401462473683699 : True := trivial
theorem lawx.tw2167258374311693812 : True := trivial
theorem lawx.tw2177014991397864531 : True := trivial
theorem lawx.tw2192117313403970962 : True := trivial
theorem lawx.tw2216532952649661084 : True := trivial
theorem lawx.tw2231914652832428936 : True := trivial
theorem lawx.tw2239531621753278184 : True := trivial
theorem lawx.tw2250310633774229196 : True := trivial
theorem lawx.tw225134962485323515 : True := trivial
theorem lawx.tw2282116129879523229 : True := trivial
theorem lawx.tw2305663105953216885 : True := trivial
theorem lawx.tw2319137927307588883 : True := trivial
theorem lawx.tw2340884855224396996 : True := trivial
theorem lawx.tw23441498629253906 : True := trivial
theorem lawx.tw235342211868957644 : True := trivial
theorem lawx.tw2359627277637681977 : True := trivial
theorem lawx.tw236051168817006824 : True := trivial
theorem lawx.tw2373983292484235570 : True := trivial
theorem lawx.tw2376283710542865304 : True := trivial
theorem lawx.tw2424954795820871639 : True := trivial
theorem lawx.tw2426114029568940634 : True := trivial
theorem lawx.tw2432523197457475996 : True := trivial
theorem lawx.tw2469749861698079725 : True := trivial
theorem lawx.tw2482913711606204239 : True := trivial
theorem lawx.tw2495347897216369011 : True := trivial
theorem lawx.tw2510753930770759470 : True := trivial
theorem lawx.tw2544210333101487517 : True := trivial
theorem lawx.tw25966274751049694 : True := trivial
theorem lawx.tw2627788266183061390 : True := trivial
theorem lawx.tw2651904508962454903 : True := trivial
theorem lawx.tw2655354648143779521 : True := trivial
theorem lawx.tw2681779192241441938 : True := trivial
theorem lawx.tw2721206191868225204 : True := trivial
theorem lawx.tw2812476670339674090 : True := trivial
theorem lawx.tw283311010254175958 : True := trivial
theorem lawx.tw2845292826662033128 : True := trivial
theorem lawx.tw2864399653035583036 : True := trivial
theorem lawx.tw2897437391450345033 : True := trivial
theorem lawx.tw2900745537809945255 : True := trivial
theorem lawx.tw2901213127710990109 : True := trivial
theorem lawx.tw2905973806785743306 : True := trivial
theorem lawx.tw2925266808126949885 : True := trivial
theorem lawx.tw2955010476343902161 : True := trivial
theorem lawx.tw2961222335232845028 : True := trivial
theorem lawx.tw2965749972522593550 : True := trivial
theorem lawx.tw2984613696908738181 : True := trivial
theorem lawx.tw3001179718301866299 : True := trivial
theorem lawx.tw3041333120942092724 : True := trivial
theorem lawx.tw3092870183290166190 : True := trivial
theorem lawx.tw3137435577736890943 : True := trivial
theorem lawx.tw3140842346626477229 : True := trivial
theorem lawx.tw3159254709313823695 : True := trivial
theorem lawx.tw317136056255982878 : True := trivial
theorem lawx.tw3172115531595550943 : True := trivial
theorem lawx.tw3178515804513980486 : True := trivial
theorem lawx.tw3215464129319047134 : True := trivial
theorem lawx.tw3225792356564743020 : True := trivial
theorem lawx.tw3239149031618269318 : True := trivial
theorem lawx.tw3261863654125428002 : True := trivial
theorem lawx.tw3278229342223211516 : True := trivial
theorem lawx.tw328124882257121968 : True := trivial
theorem lawx.tw3293796875418891722 : True := trivial
theorem lawx.tw3307718684828641903 : True := trivial
theorem lawx.tw33285954138498013 : True := trivial
theorem lawx.tw3375164187419023632 : True := trivial
theorem lawx.tw3380451218277424061 : True := trivial
theorem lawx.tw3394558670999213895 : True := trivial
theorem lawx.tw3418233016304229232 : True := trivial
theorem lawx.tw3442004383364443502 : True := trivial
theorem lawx.tw3479763156286990360 : True := trivial
theorem lawx.tw356716468164091680 : True := trivial
theorem lawx.tw3575664865470991545 : True := trivial
theorem lawx.tw3623341428308306968 : True := trivial
theorem lawx.tw3623546225218661597 : True := trivial
theorem lawx.tw3637360224985861816 : True := trivial
theorem lawx.tw3679246286972157910 : True := trivial
theorem lawx.tw3708639647948237746 : True := trivial
theorem lawx.tw3721154266960140600 : True := trivial
theorem lawx.tw3735200323283336109 : True := trivial
theorem lawx.tw3741625971836096452 : True := trivial
theorem lawx.tw3797897179752169164 : True := trivial
theorem lawx.tw3808306332699459612 : True := trivial
theorem lawx.tw3818318074282754365 : True := trivial
theorem lawx.tw3836751874205567673 : True := trivial
theorem lawx.tw3872520736187658738 : True := trivial
theorem lawx.tw3876639511847460997 : True := trivial
theorem lawx.tw3888478784421946492 : True := trivial
theorem lawx.tw3912370135352836132 : True := trivial
theorem lawx.tw3913531439736223283 : True := trivial
theorem lawx.tw3914182629397939742 : True := trivial
theorem lawx.tw3925135455883439309 : True := trivial
theorem lawx.tw3950741424926963857 : True := trivial
theorem lawx.tw3962756937086864966 : True := trivial
theorem lawx.tw3963465817004915084 : True := trivial
theorem lawx.tw3980701153783524821 : True := trivial
theorem lawx.tw3992000947522172444 : True := trivial
theorem lawx.tw3997442447858241142 : True := trivial
theorem lawx.tw4020300439150607195 : True := trivial
theorem lawx.tw4030227997155030950 : True := trivial
theorem lawx.tw4037312146244973715 : True := trivial
theorem lawx.tw4040043062890406183 : True := trivial
theorem lawx.tw4067654542512444606 : True := trivial
theorem lawx.tw4116673973771066342 : True := trivial
theorem lawx.tw4191325773598679058 : True := trivial
theorem lawx.tw4198190847340018931 : True := trivial
theorem lawx.tw4273809438078527629 : True := trivial
theorem lawx.tw4291567961232934865 : True := trivial
theorem lawx.tw4291571618390780809 : True := trivial
theorem lawx.tw4299305185318941610 : True := trivial
theorem lawx.tw4307744008170661457 : True := trivial
theorem lawx.tw4403263797122339747 : True := trivial
theorem lawx.tw4453011217546785785 : True := trivial
theorem lawx.tw4463909820869705903 : True := trivial
theorem lawx.tw4491269249624102394 : True := trivial
theorem lawx.tw4498228310010114521 : True := trivial
theorem lawx.tw4536277528644823032 : True := trivial
theorem lawx.tw4541921786985107613 : True := trivial
theorem lawx.tw4577816593192482668 : True := trivial
theorem lawx.tw4621163318104372895 : True := trivial
theorem lawx.tw4665756176363072103 : True := trivial
theorem lawx.tw4726097826942442390 : True := trivial
theorem lawx.tw4728616634080480321 : True := trivial
theorem lawx.tw4763481224455524528 : True := trivial
theorem lawx.tw4819968183322472373 : True := trivial
theorem lawx.tw4820240192245637001 : True := trivial
theorem lawx.tw4865322682264453185 : True := trivial
theorem lawx.tw4868866566297676915 : True := trivial
theorem lawx.tw4869471632017523254 : True := trivial
theorem lawx.tw4888693941890523253 : True := trivial
theorem lawx.tw4911031482053033587 : True := trivial
theorem lawx.tw4913702011236436253 : True := trivial
theorem lawx.tw4920594956764110241 : True := trivial
theorem lawx.tw4960646377288414457 : True := trivial
theorem lawx.tw501050320314815310 : True := trivial
theorem lawx.tw5103283509461571781 : True := trivial
theorem lawx.tw51157980446683880 : True := trivial
theorem lawx.tw5125297903684555945 : True := trivial
theorem lawx.tw5135809802566627766 : True := trivial
theorem lawx.tw5150173197718025812 : True := trivial
theorem lawx.tw5162586501873444028 : True := trivial
theorem lawx.tw5164282947262259197 : True := trivial
theorem lawx.tw5186146309691446908 : True := trivial
theorem lawx.tw5194156775466055356 : True := trivial
theorem lawx.tw520343246325981082 : True := trivial
theorem lawx.tw5230284205402983375 : True := trivial
theorem lawx.tw5236512084154770677 : True := trivial
theorem lawx.tw5239594890767250222 : True := trivial
theorem lawx.tw5249407853858621946 : True := trivial
theorem lawx.tw525863827060273173 : True := trivial
theorem lawx.tw5310366916200560301 : True := trivial
theorem lawx.tw538814675386388726 : True := trivial
theorem lawx.tw5400993684706398263 : True := trivial
theorem lawx.tw5410288388913553028 : True := trivial
theorem lawx.tw5431541338203454689 : True := trivial
theorem lawx.tw5450264417766260805 : True := trivial
theorem lawx.tw5460224353617419912 : True := trivial
theorem lawx.tw5464314864417786589 : True := trivial
theorem lawx.tw5485182620974262096 : True := trivial
theorem lawx.tw5497031324202166888 : True := trivial
theorem lawx.tw5501931373899234454 : True := trivial
theorem lawx.tw5511369827738036707 : True := trivial
theorem lawx.tw5518670971713841740 : True := trivial
theorem lawx.tw5525734300678288965 : True := trivial
theorem lawx.tw5550586890827136224 : True := trivial
theorem lawx.tw5550768575473314895 : True := trivial
theorem lawx.tw5616510357420774499 : True := trivial
theorem lawx.tw56754162360792276 : True := trivial
theorem lawx.tw567930802271773968 : True := trivial
theorem lawx.tw5680603758799765239 : True := trivial
theorem lawx.tw5735343543823327621 : True := trivial
theorem lawx.tw573937181354886691 : True := trivial
theorem lawx.tw5740576291267487314 : True := trivial
theorem lawx.tw5741185035957425002 : True := trivial
theorem lawx.tw5743698697375044202 : True := trivial
theorem lawx.tw5744011211726526349 : True := trivial
theorem lawx.tw5748087681875749425 : True := trivial
theorem lawx.tw5762118476438184929 : True := trivial
theorem lawx.tw577235469209950571 : True := trivial
theorem lawx.tw5775053053532135166 : True := trivial
theorem lawx.tw5810165873938250143 : True := trivial
theorem lawx.tw5842031738155130819 : True := trivial
theorem lawx.tw5874781373454325557 : True := trivial
theorem lawx.tw5884554475545060579 : True := trivial
theorem lawx.tw5888820026954260791 : True := trivial
theorem lawx.tw596482464845959138 : True := trivial
theorem lawx.tw5976946098973910353 : True := trivial
theorem lawx.tw5987562936540242920 : True := trivial
theorem lawx.tw6006334389095976094 : True := trivial
theorem lawx.tw6008198063973822290 : True := trivial
theorem lawx.tw6032685390288412968 : True := trivial
theorem lawx.tw6046634883474583269 : True := trivial
theorem lawx.tw6046730396800432632 : True := trivial
theorem lawx.tw6073177591623946520 : True := trivial
theorem lawx.tw6078135930787591809 : True := trivial
theorem lawx.tw6079391806423952850 : True := trivial
theorem lawx.tw6080674538941270514 : True := trivial
theorem lawx.tw608754027186309330 : True := trivial
theorem lawx.tw6107390858648826888 : True := trivial
theorem lawx.tw6120245739072120410 : True := trivial
theorem lawx.tw6172673087208817326 : True := trivial
theorem lawx.tw6175885483885361381 : True := trivial
theorem lawx.tw6202314498708839840 : True := trivial
theorem lawx.tw6216586114675986736 : True := trivial
theorem lawx.tw6219139937035577394 : True := trivial
theorem lawx.tw6229325060874113742 : True := trivial
theorem lawx.tw6256583207244517183 : True := trivial
theorem lawx.tw6297133135752736607 : True := trivial
theorem lawx.tw6301906149432409973 : True := trivial
theorem lawx.tw6321767526577232251 : True := trivial
theorem lawx.tw6339111464265247319 : True := trivial
theorem lawx.tw6344844407666712208 : True := trivial
theorem lawx.tw6391138739729625548 : True := trivial
theorem lawx.tw6408452673562029317 : True := trivial
theorem lawx.tw6418128060162482272 : True := trivial
theorem lawx.tw6431415844364256344 : True := trivial
theorem lawx.tw6433021851043777402 : True := trivial
theorem lawx.tw6465156462826321163 : True := trivial
theorem lawx.tw6469534832594592966 : True := trivial
theorem lawx.tw6484383892680153771 : True := trivial
theorem lawx.tw6512710296566059849 : True := trivial
theorem lawx.tw6520366190209441069 : True := trivial
theorem lawx.tw6525225434283950785 : True := trivial
theorem lawx.tw6532402978122462123 : True := trivial
theorem lawx.tw6541951760006588162 : True := trivial
theorem lawx.tw6553924169895648446 : True := trivial
theorem lawx.tw6583055264381941003 : True := trivial
theorem lawx.tw6606390034704637182 : True := trivial
theorem lawx.tw6635030011400479876 : True := trivial
theorem lawx.tw6650610207462559810 : True := trivial
theorem lawx.tw6678672676690230090 : True := trivial
theorem lawx.tw6698082896441239256 : True := trivial
theorem lawx.tw6701389948253156402 : True := trivial
theorem lawx.tw6710975522150567176 : True := trivial
theorem lawx.tw6722886299865116243 : True := trivial
theorem lawx.tw6752710052369045298 : True := trivial
theorem lawx.tw6770842990482259818 : True := trivial
theorem lawx.tw6811081313382095126 : True := trivial
theorem lawx.tw6812674787295001779 : True := trivial
theorem lawx.tw6858725820338212468 : True := trivial
theorem lawx.tw6859081597217539882 : True := trivial
theorem lawx.tw6865143507342469489 : True := trivial
theorem lawx.tw6868131251080406006 : True := trivial
theorem lawx.tw6927346057957118597 : True := trivial
theorem lawx.tw6961323149736799575 : True := trivial
theorem lawx.tw7004842848546200804 : True := trivial
theorem lawx.tw7029446589931883881 : True := trivial
theorem lawx.tw7069316658076103762 : True := trivial
theorem lawx.tw7092324095871652750 : True := trivial
theorem lawx.tw7111844048757406651 : True := trivial
theorem lawx.tw7114534823472996278 : True := trivial
theorem lawx.tw7125778229677009024 : True := trivial
theorem lawx.tw7135061879464705844 : True := trivial
theorem lawx.tw7135406026109707661 : True := trivial
theorem lawx.tw7136792198891308184 : True := trivial
theorem lawx.tw718106339486635514 : True := trivial
theorem lawx.tw7215418684660095994 : True := trivial
theorem lawx.tw7217717198049813232 : True := trivial
theorem lawx.tw7218168837991645592 : True := trivial
theorem lawx.tw7246267414335967261 : True := trivial
theorem lawx.tw7248831088649956579 : True := trivial
theorem lawx.tw7266838905655608005 : True := trivial
theorem lawx.tw7285494346412557627 : True := trivial
theorem lawx.tw7289952185175347280 : True := trivial
theorem lawx.tw7295230608873054422 : True := trivial
theorem lawx.tw734614841752121469 : True := trivial
theorem lawx.tw7352960340018277654 : True := trivial
theorem lawx.tw7353065142490721437 : True := trivial
theorem lawx.tw7391940955620005500 : True := trivial
theorem lawx.tw7414277520234059954 : True := trivial
theorem lawx.tw7422070954283373388 : True := trivial
theorem lawx.tw7424191719625285003 : True := trivial
theorem lawx.tw7426948977058484875 : True := trivial
theorem lawx.tw7434132692392023328 : True := trivial
theorem lawx.tw7514205917358282199 : True := trivial
theorem lawx.tw7583850007154009614 : True := trivial
theorem lawx.tw7632700690625738988 : True := trivial
theorem lawx.tw7638177545926035435 : True := trivial
theorem lawx.tw7647345636125460655 : True := trivial
theorem lawx.tw7648170981340075256 : True := trivial
theorem lawx.tw7649976599157539025 : True := trivial
theorem lawx.tw767229024600482636 : True := trivial
theorem lawx.tw7718991613429217823 : True := trivial
theorem lawx.tw7731287059100770792 : True := trivial
theorem lawx.tw7733765462321880548 : True := trivial
theorem lawx.tw7762580845448675633 : True := trivial
theorem lawx.tw7810704320639894907 : True := trivial
theorem lawx.tw7867689618038629653 : True := trivial
theorem lawx.tw7900680103980908338 : True := trivial
theorem lawx.tw7906874092462664142 : True := trivial
theorem lawx.tw791685432938640207 : True := trivial
theorem lawx.tw7947684996914430078 : True := trivial
theorem lawx.tw7952199302502803629 : True := trivial
theorem lawx.tw7967345331644205799 : True := trivial
theorem lawx.tw7972455427193836904 : True := trivial
theorem lawx.tw8015657334452071536 : True := trivial
theorem lawx.tw8038113951154446748 : True := trivial
theorem lawx.tw805181891145539252 : True := trivial
theorem lawx.tw8075093638915668190 : True := trivial
theorem lawx.tw8077194309071078325 : True := trivial
theorem lawx.tw8090607062260764710 : True := trivial
theorem lawx.tw8093764193515826391 : True := trivial
theorem lawx.tw8116179643837613688 : True := trivial
theorem lawx.tw8126118291327235624 : True := trivial
theorem lawx.tw8156682013806362671 : True := trivial
theorem lawx.tw8187913200886622810 : True := trivial
theorem lawx.tw8188971160219590007 : True := trivial
theorem lawx.tw8196742929803500928 : True := trivial
theorem lawx.tw8222240653904121117 : True := trivial
theorem lawx.tw8240376368160265625 : True := trivial
theorem lawx.tw8318642161331774612 : True := trivial
theorem lawx.tw8346757241338815485 : True := trivial
theorem lawx.tw8368670578455133904 : True := trivial
theorem lawx.tw8371857278320073555 : True := trivial
theorem lawx.tw8410640067427894426 : True := trivial
theorem lawx.tw8415282163600093941 : True := trivial
theorem lawx.tw8424962859768715130 : True := trivial
theorem lawx.tw8442335206338020920 : True := trivial
theorem lawx.tw8456886767293064230 : True := trivial
theorem lawx.tw8478297739202719846 : True := trivial
theorem lawx.tw8507866291117201988 : True := trivial
theorem lawx.tw8527568322913990930 : True := trivial
theorem lawx.tw8531116351831695536 : True := trivial
theorem lawx.tw8563845990467778963 : True := trivial
theorem lawx.tw8602957649274502896 : True := trivial
theorem lawx.tw8606955202067882384 : True := trivial
theorem lawx.tw866567564449500506 : True := trivial
theorem lawx.tw8703778444379842786 : True := trivial
theorem lawx.tw8715005416317574447 : True := trivial
theorem lawx.tw8727826390664660042 : True := trivial
theorem lawx.tw8729274110578490666 : True := trivial
theorem lawx.tw8737857212287079886 : True := trivial
theorem lawx.tw8776333635815483555 : True := trivial
theorem lawx.tw890256968217692577 : True := trivial
theorem lawx.tw8905133725515513129 : True := trivial
theorem lawx.tw8917416237181176038 : True := trivial
theorem lawx.tw8965584285326269946 : True := trivial
theorem lawx.tw8993671726408768584 : True := trivial
theorem lawx.tw9025434258898261660 : True := trivial
theorem lawx.tw9058760576003608179 : True := trivial
theorem lawx.tw908639646473750110 : True := trivial
theorem lawx.tw9101944926975781914 : True := trivial
theorem lawx.tw9102813087785425286 : True := trivial
theorem lawx.tw9114609710115714887 : True := trivial
theorem lawx.tw9233428631068928969 : True := trivial
theorem lawx.tw9249403353365007521 : True := trivial
theorem lawx.tw9268088532644129646 : True := trivial
theorem lawx.tw9301753180879629816 : True := trivial
theorem lawx.tw9313611304643153804 : True := trivial
theorem lawx.tw9429939541165680911 : True := trivial
theorem lawx.tw945553429722954631 : True := trivial
theorem lawx.tw9483352839657073844 : True := trivial
theorem lawx.tw9496399674723533768 : True := trivial
theorem lawx.tw960362281774368738 : True := trivial
theorem lawx.tw9633326400443864446 : True := trivial
theorem lawx.tw9698499646339787448 : True := trivial
theorem lawx.tw9710235280364609152 : True := trivial
theorem lawx.tw971803996724049480 : True := trivial
theorem lawx.tw9729407205537534957 : True := trivial
theorem lawx.tw9742816383311591409 : True := trivial
theorem lawx.tw9744651436137129655 : True := trivial
theorem lawx.tw9744861167413929824 : True := trivial
theorem lawx.tw9764213031295785975 : True := trivial
theorem lawx.tw9766956260726503590 : True := trivial
theorem lawx.tw9796764755470157751 : True := trivial
theorem lawx.tw9800206343112820988 : True := trivial
theorem lawx.tw986716198713057019 : True := trivial
theorem lawx.tw9900197814324037332 : True := trivial
theorem lawx.tw9930727086201643189 : True := trivial
end
section
open PySem PySem.W PySem.Calls PyProof.Rows PySem.Spec
set_option Elab.async false
set_option maxHeartbeats 1000000
set_option maxHeartbeats 0
local macro_rules | `(tactic| walk_at "h_ev2") => `(tactic| first
  | ((with_reducible refine' Ev.l0 ?e ?m); (case e => walk_at "h_ev"); (case m => walk_at "h_mem"))
  | ((with_reducible refine' Ev.l1 ?e ?m); (case e => walk_at "h_ev"); (case m => walk_at "h_mem"))
  | ((with_reducible refine' Ev.l2 ?e ?m); (case e => walk_at "h_ev"); (case m => walk_at "h_mem")))
set_option Elab.async true
set_option maxHeartbeats 8000000
theorem lawx : PySem.Challenge.rw_np0100_01.Holds := by
  w_on
  o_law
  k_head
  (case hw => w_witness2)
  (w_top off)
  k_go0
  (all_goals try k_fold)
  (try ((rename Heap.CodeRec _ _ _ => hcd9); clear hcd9))
  (try dsimp only)
  rename Fr _ _ _ _ => F0
  rename News _ _ _ _ => N0
  rename Top _ _ _ _ _ _ => T0
  rename Below _ _ _ _ => B0
  rename IntsAre _ _ => I0
  rename Heap.IsList _ _ _ => L0
  rename Frag.In _ _ => X0
  rename _ = #[] => G0
  rename _ = Data.cell _ => C0
  rename ¬ _ < _ => l0
  refine' law_in (lev := 14) (sN "script") (sN "deck") [sN "size", sN "room", sN "signs", sN "own_point_here", sN "marks", sN "at", sN "advances", sN "third", sN "second", sN "first", sN "fourth", sN "one", sN "other", sN "bounds", sN "own_buffer", sN "own_marks", sN "states", sN "edit", sN "further", sN "own_again"] X0 T0 B0 F0 N0 ?cd L0 I0 ?hm ?ml ?hn ?hk ?hlv ?hcs ?hX ?hQ
  case cd => exact C0
  case hm => kernel_rfl
  case ml => walk_at "h_lo"
  case hn => kernel_rfl
  case hk => rfl
  case hlv => decide
  case hcs => exact rfl
  case hQ =>
    intro h tk m' F'
    refine goodW_bool F' G0 (raisesW_false ?hn) ?hp
    case hn => wrow_none_raised
    case hp => (first | kc_post | wrow_post)
  case hX =>
  rename List Int => ns
  clear F0 N0 T0 B0 I0 L0 X0 G0 C0
  (try (rename (Dflts ..) => z9; clear z9))
  (try (rename (Ground ..) => z9; clear z9))
  (try (rename (PySem.Frag.says ..) => z9; clear z9))
  (try (rename (Flt.MathXP ..) => z9; clear z9))
  (try (rename (LooseAre ..) => z9; clear z9))
  (try (rename (Glob ..) => z9; clear z9))
  (try (rename (Tables ..) => z9; clear z9))
  (try (rename (TopE ..) => z9; clear z9))
  (try (rename (TopW ..) => z9; clear z9))
  (try (rename (BMod ..) => z9; clear z9))
  (try (rename (ReadsAllW ..) => z9; clear z9))
  (try (rename (ReadsAll ..) => z9; clear z9))
  (try (rename (Well ..) => z9; clear z9))
  (try (rename (Reads ..) => z9; clear z9))
  (try (rename (CellsAre ..) => z9; clear z9))
  (try (rename (_ = some _) => z9; clear z9))
  (try (rename (Shape.has .. = true) => z9; clear z9))
  (try (rename (PyData.layableAll0 .. = true) => z9; clear z9))
  (try (rename (PyData.layable0 .. = true) => z9; clear z9))
  (try (rename (WShape.hasAll .. = true) => z9; clear z9))
  (try (rename (WData.layableAll .. = true) => z9; clear z9))
  (try (rename (True) => z9; clear z9))
  (try (rename (Flow → Shared → Prop) => z9; clear z9))
  (try (rename (Value → Shared → Prop) => z9; clear z9))
  intro n c hcl hL hI
  have hnl : ns.length ≤ 63 := Int.ofNat_le.mp (Int.not_lt.mp l0)
  clear l0
  have hst : c.cl.lookup (sN "deck") = some n := lk_eq hcl rfl
  refine' X.assignC (ov := none) hst ?hk1 rfl (Ex.listX (Exs.cons rfl (Ex.compE (cl := []) ?a1 ?a2 ?a3 ?a4 ?a5 ?a6 (fun _ => rfl)
    (fun r ys led => ∃ td zs, r = iv td ∧ ys = iv zs ∧ zs.length + td.length ≤ 63 ∧ led = [(n, .cell none)]) (Ex.slice0 ?b1 Ev.int hL (by decide) ?b2 hI fun ax => ⟨ax, _, _, rfl, Rem.head, ?b3, ⟨ns.take 63, [], ?b4, rfl, ?b5, rfl⟩, ?fin⟩) ?turn)))
  case hk1 => kernel_rfl
  case a1 => rfl
  case a2 => kernel_rfl
  case a3 => rfl
  case a4 => kernel_rfl
  case a5 => kernel_rfl
  case a6 => kernel_rfl
  case b1 => walk_at "h_ev"
  case b2 => rw [← hI.length, iv, List.length_map]; exact Nat.le_trans hnl (by decide)
  case b3 => rw [List.length_take, iv, List.length_map]; exact Nat.le_trans (Nat.min_le_right _ _) (Nat.le_trans hnl (by decide))
  case b4 => rw [iv, iv, List.map_take]; rfl
  case b5 => rw [List.length_take, List.length_nil, Nat.zero_add]; exact Nat.min_le_left _ _
  case turn =>
    rintro ax ob v r ys led L oL I oI C D oD ⟨td, zs, e3, rfl, hz, rfl⟩
    cases td with
    | nil => cases e3
    | cons i td =>
      cases e3
      refine' Ex.ev (Ev.abs ?v1 rfl ?v2 ?v3) ⟨_, ?S2, td, zs ++ [_], rfl, ?e5, ?e6, rfl⟩
      case v1 => walk_at "h_ev"
      case v2 => kernel_rfl
      case v3 => k_is
      case S2 => walk_at "h_split"
      case e5 => rw [iv, iv, List.map_append]; rfl
      case e6 => rw [len_snoc, Nat.add_assoc, Nat.add_comm 1]; exact hz
  case fin =>
  rintro il ys led ⟨td, zs, e3, rfl, hz9, rfl⟩
  obtain rfl := List.map_eq_nil_iff.mp e3.symm
  rw [List.length_nil, Nat.add_zero] at hz9
  clear e3 hL hI hnl
  refine' Exs.ev rfl Ev.int (Exs.nil ⟨Nat.le_of_ble_eq_true rfl, fun dk => ⟨_, ?R1, ?k1⟩⟩)
  case R1 => walk_at "h_rep"
  case k1 =>
  refine' X.drop (led1 := lwK dk il n 0 zs []) ?S1 ?k2
  case S1 => walk_at "h_split"
  case k2 =>
  -- size, room
  refine' X.swap [sN "size", sN "room"] (Exs.cons rfl (Ex.bin (Ex.ev Ev.int ?d1))) ?hs1 ?hw1
  case hs1 => exact fun _ => rfl
  case hw1 => with_unfolding_all rfl
  case d1 =>
  refine' Ex.call (draw_H dk il _ _ zs hz9 ?h01 ?h11 ?hm1) ?ha1 ?Sp1 ?hn1 ?hk1 ?hg1 ?hl1 ?hp1
  case ha1 => walk_at "h_evs"
  case Sp1 => walk_at "h_split"
  case h01 => lia
  case h11 => lia
  case hm1 => lia
  case hn1 => k_is
  case hk1 => k_is
  case hg1 => kernel_rfl
  case hl1 => rfl
  case hp1 =>
  intro jA jA0 jA1
  (dsimp only [List.cons_append, List.nil_append])
  refine' Opn.addI (Exs.cons rfl ?d2)
  case d2 =>
  refine' Ex.call (draw_H dk il _ _ zs hz9 ?h02 ?h12 ?hm2) ?ha2 ?Sp2 ?hn2 ?hk2 ?hg2 ?hl2 ?hp2
  case ha2 => walk_at "h_evs"
  case Sp2 => walk_at "h_split"
  case h02 => lia
  case h12 => lia
  case hm2 => lia
  case hn2 => k_is
  case hk2 => k_is
  case hg2 => kernel_rfl
  case hl2 => rfl
  case hp2 =>
  intro jB jB0 jB1
  (dsimp only [List.cons_append, List.nil_append])
  refine' Exs.nil ⟨Nat.le_of_ble_eq_true rfl, _, ?sn1, ?k3⟩
  case sn1 => walk_at "h_setns2"
  case k3 =>
  obtain ⟨mA, rfl⟩ := Int.eq_ofNat_of_zero_le jA0
  have hA8 : mA ≤ 8 := Int.ofNat_le.mp (Int.lt_add_one_iff.mp jA1)
  clear jA0 jA1
  -- signs
  refine' X.compR (cl := [(sN "deck", n)]) ?sw (clos_eq hcl ?clos) ?hc1 ?hk2 ?hn1 ?hx1 ?hx2 (fun _ => rfl)
    (fun r ys led => ∃ (ss : List Int) (k1 : Int), ys = iv ss ∧ ss.length + r.length = 4 + mA ∧ 0 ≤ k1 ∧ k1 ≤ 2 + ss.length ∧ led = lwK dk il n k1 zs []) rfl ?hrn ?hrg (Ex.ev (v := .int (4 + (mA : Int)) 0) ?v4 ⟨4 + mA, 0, by rw [Int.natCast_add]; rfl, by lia, [], _, rfl, ?q1, ?q2, ?q3, rfl⟩) ?turn2 ?fin2
  case sw => rfl
  case clos => rfl
  case hc1 => kernel_rfl
  case hk2 => rfl
  case hn1 => kernel_rfl
  case hx1 => kernel_rfl
  case hx2 => kernel_rfl
  case hrn => k_is
  case hrg => kernel_rfl
  case v4 => walk_at "h_ev"
  case q1 => rw [List.length_nil, Nat.zero_add, rangeVs, List.length_map, List.length_range]
  case q2 => lia
  case q3 => exact (by decide : (0 : Int) + 1 + 1 ≤ 2 + (0 : Nat))
  case turn2 =>
    rintro v r ys led oL I oI C D oD ⟨ss, k1, rfl, m0, m1, m2, rfl⟩ ok nsL hgL
    have l9 := List.length_cons (a := v) (as := r)
    refine' Ex.bin (Ex.ev Ev.int (Ex.callIn ok nsL hgL (draw_H dk il k1 6 zs hz9 (by lia) (by lia) (by decide)) (Evs.cons rfl (Ev.cell ?f1 ?f2 ?f3) (Evs.cons rfl Ev.int .nil)) ?Sp3 ?hn3 ?hk3 ?hg3 ?hl3 ?hp3))
    case f1 => exact rfl
    case f2 => walk_at "h_mem"
    case f3 => kernel_rfl
    case Sp3 => walk_at "h_split"
    case hn3 => k_is
    case hk3 => k_is
    case hg3 => kernel_rfl
    case hl3 => rfl
    case hp3 =>
      intro j j0 j1
      (dsimp only [List.cons_append, List.nil_append])
      refine' Opn.addI ⟨_, ?S4, ss ++ [65 + j], k1 + 1, ?e1, ?e2, by lia, ?e4, rfl⟩
      case S4 => walk_at "h_split"
      case e1 => rw [iv, iv, List.map_append]; rfl
      case e2 => rw [len_snoc]; lia
      case e4 => rw [len_snoc]; lia
  case fin2 =>
  rintro sg ys led ⟨ss, k1, rfl, m0, m1, m2, rfl⟩
  rw [List.length_nil, Nat.add_zero] at m0
  refine' ⟨_, ?sl3, ?k4⟩
  case sl3 => walk_at "h_setl"
  case k4 =>
  rw [show (4 : Int) + mA = ss.length by rw [m0, Int.natCast_add]; rfl]
  have hs1 : 4 ≤ ss.length := by rw [m0]; exact Nat.le_add_right _ _
  have hs2 : ss.length ≤ 12 := by rw [m0]; exact Nat.add_le_add_left hA8 4
  have hk2 : k1 ≤ 14 := by lia
  clear m0 m2 hA8
  -- own_point_here, marks
  refine' X.swap [sN "own_point_here", sN "marks"] (Exs.cons rfl (Ex.bin (Ex.ev Ev.int ?d3))) ?hs2 ?hw2
  case hs2 => exact fun _ => rfl
  case hw2 => with_unfolding_all rfl
  case d3 =>
  refine' Ex.call (draw_H dk il _ _ zs hz9 ?h03 ?h13 ?hm3) ?ha3 ?Sp3 ?hn3 ?hk3 ?hg3 ?hl3 ?hp3
  case ha3 => walk_at "h_evs"
  case Sp3 => walk_at "h_split"
  case h03 => lia
  case h13 => lia
  case hm3 => lia
  case hn3 => k_is
  case hk3 => k_is
  case hg3 => kernel_rfl
  case hl3 => rfl
  case hp3 =>
  intro jC jC0 jC1
  (dsimp only [List.cons_append, List.nil_append])
  refine' Opn.addI (Exs.cons rfl (Ex.list .nil rfl fun mk => Exs.nil ⟨Nat.le_of_ble_eq_true rfl, _, ?sn2, ?k5⟩))
  case sn2 => walk_at "h_setns2"
  case k5 =>
  have hC : 1 ≤ 1 + jC ∧ 1 + jC ≤ ss.length + 1 := by lia
  refine' X.drop (led1 := lwK dk il n (k1 + 1) zs [(sg, .list (iv ss)), (mk, .list [])]) ?S5 ?k6
  case S5 => walk_at "h_split"
  case k6 =>
  -- the marks
  refine' X.forR (LwM _ dk il n sg mk ss zs jB jC) rfl ?hn9 ?hg9 (Ex.ev Ev.int ⟨3, 0, rfl, by decide, none, none, [], [], k1 + 1, [], rfl, rfl, .nil, nofun, by lia, ?q4, rfl⟩) ?done9 ?turn9 (fun _ => rfl)
  case hn9 => k_is
  case hg9 => kernel_rfl
  case q4 => (show k1 + 1 ≤ 15 + 2 * ((0 : Nat) : Int)); lia
  case turn9 =>
    rintro I it v r lo led ⟨atv, adv, mvs, marks, k2, TP, rfl, m3, hTP, hmb, m4, m5, rfl⟩
    have l9 := List.length_cons (a := v) (as := r)
    have hml : mvs.length ≤ 3 := by rw [hTP.len]; lia
    refine' ⟨_, ?sl9, ?k9⟩
    case sl9 => walk_at "h_setl"
    case k9 =>
    refine' X.assignE rfl (Ex.cmp ?d9 rfl)
    case d9 =>
    refine' Ex.call (draw_H dk il _ _ zs hz9 ?h04 ?h14 ?hm4) ?ha4 ?Sp4 ?hn4 ?hk4 ?hg4 ?hl4 ?hp4
    case ha4 => walk_at "h_evs"
    case Sp4 => walk_at "h_split"
    case h04 => lia
    case h14 => lia
    case hm4 => lia
    case hn4 => k_is
    case hk4 => k_is
    case hg4 => kernel_rfl
    case hl4 => rfl
    case hp4 =>
    intro jD jD0 jD1
    (dsimp only [List.cons_append, List.nil_append])
    refine' Ex.ev Ev.int ⟨_, Cmp.eq, _, ?sl8, ?k8⟩
    case sl8 => walk_at "h_setl"
    case k8 =>
    refine' X.expr rfl ?_
    walk_at "h_appendE"
    case he =>
    refine' Ex.tupX (Exs.cons rfl (Ex.bin (Ex.ev Ev.int ?d8)))
    case d8 =>
    refine' Ex.call (draw_H dk il _ _ zs hz9 ?h05 ?h15 ?hm5) ?ha5 ?Sp5 ?hn5 ?hk5 ?hg5 ?hl5 ?hp5
    case ha5 => walk_at "h_evs"
    case Sp5 => walk_at "h_split"
    case h05 => lia
    case h15 => lia
    case hm5 => lia
    case hn5 => k_is
    case hk5 => k_is
    case hg5 => kernel_rfl
    case hl5 => rfl
    case hp5 =>
    intro jE jE0 jE1
    (dsimp only [List.cons_append, List.nil_append])
    refine' Opn.addI (Exs.ev rfl ?v8 (Exs.nil ⟨Nat.le_of_ble_eq_true rfl, fun t => ⟨_, _, ?R8, Nat.le_trans hml (by decide), ?k7⟩⟩))
    case v8 => walk_at "h_ev"
    case R8 => walk_at "h_rep"
    case k7 =>
    refine' X.tend (led5 := lwK dk il n (k2 + 1 + 1) zs ((sg, .list (iv ss)) :: (mk, .list (mvs ++ [.ref t])) :: (t, .tup [.int (1 + jE) 0, .bool (decide (jD = 1))]) :: TP)) ?S8 ?S9 ⟨some v, some (.bool (decide (jD = 1))), mvs ++ [.ref t], marks ++ [(1 + jE, decide (jD = 1))], k2 + 1 + 1, (t, .tup [.int (1 + jE) 0, .bool (decide (jD = 1))]) :: TP, rfl, ?g1, ?g2, ?g3, ?g4, ?g5, rfl⟩
    case S8 => walk_at "h_split"
    case S9 => walk_at "h_split"
    case g1 => rw [len_snoc]; lia
    case g2 => exact (hTP.mono fun p hp => .tail _ hp).app (.cons (.head _) .nil)
    case g3 =>
      intro m hm
      rcases List.mem_append.mp hm with hm | hm
      · exact hmb m hm
      · rw [List.mem_singleton.mp hm]; show 1 ≤ 1 + jE ∧ 1 + jE ≤ _; constructor <;> lia
    case g4 => lia
    case g5 => rw [len_snoc]; lia
  case done9 =>
  rintro lo led ⟨atv, adv, mvs, marks, k2, TP, rfl, m3, hTP, hmb, m4, m5, rfl⟩
  rw [List.length_nil, Nat.add_zero] at m3
  have hk3 : k2 ≤ 21 := by lia
  clear hk2 m5 m1 hC
  refine' X.assignE rfl (Ex.bin (Ex.ev Ev.int ?dF))
  case dF =>
  refine' Ex.call (draw_H dk il _ _ zs hz9 ?h06 ?h16 ?hm6) ?ha6 ?Sp6 ?hn6 ?hk6 ?hg6 ?hl6 ?hp6
  case ha6 => walk_at "h_evs"
  case Sp6 => walk_at "h_split"
  case h06 => lia
  case h16 => lia
  case hm6 => lia
  case hn6 => k_is
  case hk6 => k_is
  case hg6 => kernel_rfl
  case hl6 => rfl
  case hp6 =>
  intro jF jF0 jF1
  (dsimp only [List.cons_append, List.nil_append])
  refine' Opn.addI ⟨_, ?slF, ?kF⟩
  case slF => walk_at "h_setl"
  case kF =>
  refine' X.assignE rfl (Ex.bin (Ex.ev Ev.int ?dG))
  case dG =>
  refine' Ex.call (draw_H dk il _ _ zs hz9 ?h07 ?h17 ?hm7) ?ha7 ?Sp7 ?hn7 ?hk7 ?hg7 ?hl7 ?hp7
  case ha7 => walk_at "h_evs"
  case Sp7 => walk_at "h_split"
  case h07 => lia
  case h17 => lia
  case hm7 => lia
  case hn7 => k_is
  case hk7 => k_is
  case hg7 => kernel_rfl
  case hl7 => rfl
  case hp7 =>
  intro jG jG0 jG1
  (dsimp only [List.cons_append, List.nil_append])
  refine' Opn.addI ⟨_, ?slG, ?kG⟩
  case slG => walk_at "h_setl"
  case kG =>
  refine' X.assignE rfl (Ex.bin (Ex.ev Ev.int ?dH))
  case dH =>
  refine' Ex.call (draw_H dk il _ _ zs hz9 ?h08 ?h18 ?hm8) ?ha8 ?Sp8 ?hn8 ?hk8 ?hg8 ?hl8 ?hp8
  case ha8 => walk_at "h_evs"
  case Sp8 => walk_at "h_split"
  case h08 => lia
  case h18 => lia
  case hm8 => lia
  case hn8 => k_is
  case hk8 => k_is
  case hg8 => kernel_rfl
  case hl8 => rfl
  case hp8 =>
  intro jH jH0 jH1
  (dsimp only [List.cons_append, List.nil_append])
  refine' Opn.addI ⟨_, ?slH, ?kH⟩
  case slH => walk_at "h_setl"
  case kH =>
  refine' X.assignE rfl (Ex.bin (Ex.ev ?vI ?dI))
  case vI => walk_at "h_ev"
  case dI =>
  refine' Ex.call (draw_H dk il _ _ zs hz9 ?h09 ?h19 ?hm9) ?ha9 ?Sp9 ?hn9 ?hk9 ?hg9 ?hl9 ?hp9
  case ha9 => walk_at "h_evs"
  case Sp9 => walk_at "h_split"
  case h09 => lia
  case h19 => lia
  case hm9 => lia
  case hn9 => k_is
  case hk9 => k_is
  case hg9 => kernel_rfl
  case hl9 => rfl
  case hp9 =>
  intro jI jI0 jI1
  (dsimp only [List.cons_append, List.nil_append])
  refine' Opn.addI ⟨_, ?slI, ?kI⟩
  case slI => walk_at "h_setl"
  case kI =>
  -- the edits
  refine' X.swap [sN "one", sN "other", sN "bounds"] (Exs.cons rfl ?dJ) ?hsJ ?hwJ
  case hsJ => exact fun _ => rfl
  case hwJ => with_unfolding_all rfl
  case dJ =>
  refine' Ex.call (edit_H dk il _ _ _ zs hz9 ?e0 ?e1 ?e2) ?e3 ?e4 ?e5 ?e6 ?e7 ?e8 ?e9
  case e3 => walk_at "h_evs"
  case e4 => walk_at "h_split"
  case e0 => lia
  case e1 => lia
  case e2 => lia
  case e5 => k_is
  case e6 => k_is
  case e7 => kernel_rfl
  case e8 => rfl
  case e9 =>
  intro e1 c1 cs1 ah1 k3 p1 p2 p3 p4
  (dsimp only [List.cons_append, List.nil_append])
  refine' Exs.cons rfl ?dK
  case dK =>
  refine' Ex.call (edit_H dk il _ _ _ zs hz9 ?f0 ?f1 ?f2) ?f3 ?f4 ?f5 ?f6 ?f7 ?f8 ?f9
  case f3 => walk_at "h_evs"
  case f4 => walk_at "h_split"
  case f0 => lia
  case f1 => lia
  case f2 => lia
  case f5 => k_is
  case f6 => k_is
  case f7 => kernel_rfl
  case f8 => rfl
  case f9 =>
  intro e2 c2 cs2 ah2 k4 q1 q2 q3 q4
  (dsimp only [List.cons_append, List.nil_append])
  refine' Exs.ev rfl Ev.none (Exs.nil ⟨Nat.le_of_ble_eq_true rfl, _, ?snL, ?kL⟩)
  case snL => walk_at "h_setns3"
  case kL =>
  have hk5 : 0 ≤ k4 ∧ k4 ≤ 60 := by lia
  have hE1 : ∀ T : ALed, (e1, edT (1 + jH) (1 + jG) c1 ah1) ∈ T → (c1, AO.list (iv cs1)) ∈ T → LwE T e1 c1 (1 + jH) (1 + jG) cs1 ah1 := fun T h h' => ⟨h, h', p2, p1, by lia⟩
  have hE2 : ∀ T : ALed, (e2, edT (2 + jF) (2 + jF + jI) c2 ah2) ∈ T → (c2, AO.list (iv cs2)) ∈ T → LwE T e2 c2 (2 + jF) (2 + jF + jI) cs2 ah2 := fun T h h' => ⟨h, h', q2, q1, by lia⟩
  have hO : (1 + jG < 2 + jF ∨ 2 + jF + jI < 1 + jH) ∧ (1 ≤ 1 + jH ∧ 1 ≤ 2 + jF ∧ 1 + jG ≤ ss.length + 1 ∧ 2 + jF + jI ≤ ss.length + 1) := by lia
  clear p1 p2 p3 p4 q1 q2 q3 q4 hk3 m4
  refine' X.drop (led1 := lwK dk il n k4 zs ((sg, .list (iv ss)) :: (mk, .list mvs) :: (e1, edT (1 + jH) (1 + jG) c1 ah1) :: (c1, .list (iv cs1)) :: (e2, edT (2 + jF) (2 + jF + jI) c2 ah2) :: (c2, .list (iv cs2)) :: TP)) ?SL ?kM
  case SL => walk_at "h_split"
  case kM =>
  -- the bounds
  refine' X.iteEJ (LwB _ dk il n sg mk ss zs jB jC jF jG jH jI atv adv mvs marks e1 c1 e2 c2 cs1 cs2 ah1 ah2) (TsE.cmp ?dN rfl) ?kN
  case dN =>
    refine' Ex.call (draw_H dk il _ _ zs hz9 ?h010 ?h110 ?hm10) ?ha10 ?Sp10 ?hn10 ?hk10 ?hg10 ?hl10 ?hp10
    case ha10 => walk_at "h_evs"
    case Sp10 => walk_at "h_split"
    case h010 => lia
    case h110 => lia
    case hm10 => lia
    case hn10 => k_is
    case hk10 => k_is
    case hg10 => kernel_rfl
    case hl10 => rfl
    case hp10 =>
    intro jK jK0 jK1
    (dsimp only [List.cons_append, List.nil_append])
    refine' Ex.ev Ev.int ⟨_, Cmp.eq, fun hy => ?yN, fun hn => X.drop (led1 := lwK dk il n (k4 + 1) zs ((sg, .list (iv ss)) :: (mk, .list mvs) :: (e1, edT (1 + jH) (1 + jG) c1 ah1) :: (c1, .list (iv cs1)) :: (e2, edT (2 + jF) (2 + jF + jI) c2 ah2) :: (c2, .list (iv cs2)) :: TP)) ?SN (X.nil ⟨.none, none, k4 + 1, _, rfl, hE1 _ (.tail _ (.head _)) (.tail _ (.tail _ (.head _))), hE2 _ (.tail _ (.tail _ (.tail _ (.head _)))) (.tail _ (.tail _ (.tail _ (.tail _ (.head _))))), .none, hTP.mono fun p hp => .tail _ (.tail _ (.tail _ (.tail _ (.tail _ hp)))), .head _, ⟨hO.1, hO.2, nofun⟩, by lia, by lia, rfl⟩)⟩
    case SN => walk_at "h_split"
    case yN =>
    refine' X.assignE rfl (Ex.tupX (Exs.cons rfl (Ex.bin (Ex.ev Ev.int ?dO))))
    case dO =>
    refine' Ex.call (draw_H dk il _ _ zs hz9 ?h011 ?h111 ?hm11) ?ha11 ?Sp11 ?hn11 ?hk11 ?hg11 ?hl11 ?hp11
    case ha11 => walk_at "h_evs"
    case Sp11 => walk_at "h_split"
    case h011 => lia
    case h111 => lia
    case hm11 => lia
    case hn11 => k_is
    case hk11 => k_is
    case hg11 => kernel_rfl
    case hl11 => rfl
    case hp11 =>
    intro jL jL0 jL1
    (dsimp only [List.cons_append, List.nil_append])
    refine' Opn.addI (Exs.cons rfl (Ex.bin (Ex.ev ?vP ?dP)))
    case vP => walk_at "h_ev"
    case dP =>
    refine' Ex.call (draw_H dk il _ _ zs hz9 ?h012 ?h112 ?hm12) ?ha12 ?Sp12 ?hn12 ?hk12 ?hg12 ?hl12 ?hp12
    case ha12 => walk_at "h_evs"
    case Sp12 => walk_at "h_split"
    case h012 => lia
    case h112 => lia
    case hm12 => lia
    case hn12 => k_is
    case hk12 => k_is
    case hg12 => kernel_rfl
    case hl12 => rfl
    case hp12 =>
    intro jM jM0 jM1
    (dsimp only [List.cons_append, List.nil_append])
    refine' Opn.addI (Exs.nil ⟨Nat.le_of_ble_eq_true rfl, fun bt => ⟨_, ?slP, X.drop (led1 := lwK dk il n (k4 + 1 + 1 + 1) zs ((sg, .list (iv ss)) :: (mk, .list mvs) :: (e1, edT (1 + jH) (1 + jG) c1 ah1) :: (c1, .list (iv cs1)) :: (e2, edT (2 + jF) (2 + jF + jI) c2 ah2) :: (c2, .list (iv cs2)) :: (bt, .tup [.int (1 + jL) 0, .int (2 + jF + jI + jM) 0]) :: TP)) ?SP (X.nil ⟨.ref bt, some (1 + jL, 2 + jF + jI + jM), k4 + 1 + 1 + 1, _, rfl, hE1 _ (.tail _ (.head _)) (.tail _ (.tail _ (.head _))), hE2 _ (.tail _ (.tail _ (.tail _ (.head _)))) (.tail _ (.tail _ (.tail _ (.tail _ (.head _))))), .some (.tail _ (.tail _ (.tail _ (.tail _ (.tail _ (.head _)))))), hTP.mono fun p hp => .tail _ (.tail _ (.tail _ (.tail _ (.tail _ (.tail _ hp))))), .head _, ⟨hO.1, hO.2, ?oP⟩, by lia, by lia, rfl⟩)⟩⟩)
    case slP => walk_at "h_setl"
    case SP => walk_at "h_split"
    case oP =>
      intro lo hi e
      obtain ⟨rfl, rfl⟩ := Prod.mk.inj (Option.some.inj e)
      lia
  case kN =>
  rintro lo led ⟨bnV, bn, k6, T, rfl, hL1, hL2, hB, hTP9, hmk, hO9, h60, h61, rfl⟩
  -- which goes first
  refine' X.iteEJ (LwA _ sg mk ss jB (1 + jC) mvs marks) (TsE.cmp ?dQ rfl) ?kQ
  case dQ =>
    refine' Ex.call (draw_H dk il _ _ zs hz9 ?h013 ?h113 ?hm13) ?ha13 ?Sp13 ?hn13 ?hk13 ?hg13 ?hl13 ?hp13
    case ha13 => walk_at "h_evs"
    case Sp13 => walk_at "h_split"
    case h013 => lia
    case h113 => lia
    case hm13 => lia
    case hn13 => k_is
    case hk13 => k_is
    case hg13 => kernel_rfl
    case hl13 => rfl
    case hp13 =>
    intro jN jN0 jN1
    (dsimp only [List.cons_append, List.nil_append])
    refine' Ex.ev Ev.int ⟨_, Cmp.eq, fun hy => ?yQ, fun hn => X.drop (led1 := (sg, .list (iv ss)) :: T) ?SQ (X.nil ⟨_, _, _, _, _, _, _, _, _, _, _, _, _, _, _, _, _, _, _, _, _, rfl, hL1, hL2, hB, hTP9, hmk, hO9, rfl⟩)⟩
    case SQ => walk_at "h_split"
    case yQ =>
    refine' X.swap [sN "one", sN "other"] (Exs.evs ?vR ⟨?zR, _, ?snR, X.drop (led1 := (sg, .list (iv ss)) :: T) ?SR (X.nil ⟨_, _, _, _, _, _, _, _, _, _, _, _, _, _, _, _, _, _, _, _, _, rfl, hL2, hL1, hB, hTP9, hmk, hO9.swap, rfl⟩)⟩) ?hsR ?hwR
    case vR => walk_at "h_evs"
    case zR => exact Nat.le_of_ble_eq_true rfl
    case snR => walk_at "h_setns2"
    case SR => walk_at "h_split"
    case hsR => exact fun _ => rfl
    case hwR => with_unfolding_all rfl
  case kQ =>
  rintro lo led hA
  have hB3 : 0 ≤ jB ∧ jB ≤ 3 := by lia
  have hC9 : marks.length = 3 := m3
  clear hL1 hL2 hB hTP9 hO9 h60 h61 hmk hE1 hE2 hO hTP
  obtain ⟨e1, c1, s1, n1, cs1, ah1, e2, c2, s2, n2, cs2, ah2, bnV, bn, T, x1, x2, x3, x4, x5, x6, rfl, hL1, hL2, hB, hTP, hmk, hO, rfl⟩ := hA
  obtain ⟨bv, zv, hbz, b1, b2, b3, b4, b5, b6⟩ := hO.bz hL1.le
  -- the buffer
  refine' X.assignT (Ex.callX (f := 769) rfl ?u1 ?u2 ?u3 (Exs.cons rfl (Ex.tup (vs := [.int jB 0, .ref sg, .int (1 + jC) 0, .ref mk, bnV]) ?u4 rfl fun td => Exs.nil ⟨6, _, _, _, lbuf2_H td sg mk jB (1 + jC) bv zv ss mvs marks ((td, .tup [.int jB 0, .ref sg, .int (1 + jC) 0, .ref mk, bnV]) :: T) bnV bn (.head _) (.tail _ hmk) (hTP.mono fun p hp => .tail _ hp) (hB.mono fun p hp => .tail _ hp) hB3.1 (by lia) ?u5 (by lia) hmb (by lia) hbz b1 (by have := hL1.le; lia) b6, rfl, ?u6, fun r b x cl mx rd ln om pt A G B ms hAB hsz hMs => ⟨_, Asg.tup (vs := [.ref b, .ref om]) (.head _) ?u7, ?u8⟩⟩))) ?u9 ?u10
  case u1 => k_is
  case u2 => k_is
  case u3 => kernel_rfl
  case u4 => walk_at "h_evs"
  case u5 => exact fun e => by rw [e] at hs1; exact absurd hs1 (by decide)
  case u6 => walk_at "h_split"
  case u9 => exact fun _ => rfl
  case u10 => with_unfolding_all rfl
  case u7 => walk_at "h_setts"
  case u8 =>
  (dsimp only [List.cons_append, List.nil_append])
  have hml : ms.length = 3 := hMs.len.trans hC9
  refine' X.expr rfl ?_
  refine' Ex.meth (setmod_H b x mx ln .none pt bv zv (1 + 1) (1 + 1) 1) ?ho ?hm ?ha ?Sp ?hns ?hno ?h1 ?h2 ?h3 ?hk ?hlv ?he ?hp
  ((case ho => walk_at "h_ev"); (case hm => walk_at "h_mem"); (case ha => walk_at "h_evs"); (case Sp => walk_at "h_split"); (case hns | hno | h1 | h2 | h3 | hk | hlv => kernel_rfl); (case he => exact fun _ => rfl))
  case hp =>
  (dsimp only [List.cons_append, List.nil_append])
  refine' X.setattrE rfl (Ex.new0 (fI := 724) ?w1 ?w2 ?w3 ?w4 ?w5 ?w6 fun rc => ⟨3, [], _, _, recinit_H rc, rfl, .nil, fun u rl => ⟨rfl, ?w7⟩⟩)
  case w1 => k_is
  case w2 => k_is
  case w3 => kernel_rfl
  case w4 => k_is
  case w5 => k_is
  case w6 => k_is
  case w7 =>
  (dsimp only [List.cons_append, List.nil_append])
  walk_at "h_seta"
  case k =>
  (simp only [List.append_nil])
  obtain ⟨ps, hps⟩ : ∃ ps, ms.map (·.p) = ps := ⟨_, rfl⟩
  rw [show (ms.map fun m => Value.ref m.p) = ps.map Value.ref by rw [← hps, List.map_map]; rfl]
  refine' X.drop (led1 := (b, .inst 673 (bufF x mx ln (.ref rc) pt bv zv (1 + 1) (1 + 1) (1 + 1))) :: (x, .inst 422 (gapF cl jB A.length (A.length + G.length))) :: (cl, .list (iv (A ++ G ++ B))) :: (mx, .inst 567 (mksF rd)) :: (rd, .idict (kvM ms)) :: (ln, .list []) :: (rc, .inst 746 [(sN "list", .ref u)]) :: (u, .inst 275 (undF rl .none)) :: (rl, .list []) :: (om, .list (ps.map .ref)) :: (ms.map (mkA (.ref b)) ++ T)) ?SS ?x0
  case SS => walk_at "h_split"
  case x0 =>
  refine' X.nd fun hnd0 => ?x2
  case x2 =>
  have hnd : (ms.map (·.p)).Nodup := by
    have h8 := hnd0.sublist (List.drop_sublist 10 _)
    have h9 : (((ms.map (mkA (.ref b)) ++ T).map (·.1))).Nodup := h8
    rw [List.map_append, List.map_map] at h9
    exact (List.nodup_append.mp h9).1
  clear hnd0
  rw [hps] at hnd
  refine' X.drop (led1 := (om, .list (ps.map .ref)) :: (b, .inst 673 (bufF x mx ln (.ref rc) pt bv zv (1 + 1) (1 + 1) (1 + 1))) :: (x, .inst 422 (gapF cl jB A.length (A.length + G.length))) :: (cl, .list (iv (A ++ G ++ B))) :: (mx, .inst 567 (mksF rd)) :: (rd, .idict (kvM ms)) :: (ln, .list []) :: (rc, .inst 746 [(sN "list", .ref u)]) :: (u, .inst 275 (undF rl .none)) :: (rl, .list []) :: (ms.map (mkA (.ref b)) ++ T)) ?ST ?x1
  case ST => walk_at "h_split"
  case x1 =>
  have hSt : StIs ⟨b, x, cl, mx, rd, ln, rc, u, jB, bv⟩ ⟨pt, zv, 1 + 1, 1 + 1, 1 + 1, A, G, B, ms, none, rl, []⟩ T ⟨ss, ms, zv, 1 + 1, 1 + 1, none, []⟩ := ⟨hAB, hsz, rfl, rfl, rfl, rfl, rfl, .nil, hMs.asc, by rw [hml]; rfl, hB3.1, Int.le_trans hB3.2 (by decide)⟩
  refine' (id : X _ _ _ _ _ ((om, .list (ps.map .ref)) :: stL ⟨b, x, cl, mx, rd, ln, rc, u, jB, bv⟩ ⟨pt, zv, 1 + 1, 1 + 1, 1 + 1, A, G, B, ms, none, rl, []⟩ T) _ → X _ _ _ _ _ _ _) ?x3
  case x3 =>
  generalize hS : (⟨ss, ms, zv, 1 + 1, 1 + 1, none, []⟩ : Sem) = S0 at hSt
  obtain ⟨g, hg1, hg2⟩ : ∃ g : CQ, g.b = b ∧ g = ⟨b, x, cl, mx, rd, ln, rc, u, jB, bv⟩ := ⟨_, rfl, rfl⟩
  have hgb : g.bv = bv := by rw [hg2]
  have hgu : g.u = u := by rw [hg2]
  rw [← hg2] at hSt ⊢
  rw [← hg1]
  generalize (⟨pt, zv, 1 + 1, 1 + 1, 1 + 1, A, G, B, ms, none, rl, []⟩ : VQ) = q at hSt ⊢
  clear hg2
  -- the plain law
  obtain ⟨A1, hA1⟩ : ∃ A1, A1 = bndS (edS (edOf s1 n1 cs1 ah1 0) S0) := ⟨_, rfl⟩
  obtain ⟨A2, hA2⟩ : ∃ A2, A2 = bndS (edS (edOf s2 n2 cs2 ah2 (mo2 s1 n1 s2 cs1)) A1) := ⟨_, rfl⟩
  have hnd' : (ms.map (·.p)).Nodup := by rw [hps]; exact hnd
  have hp3 : ps.length ≤ 3 := by rw [← hps, List.length_map, hml]; exact Nat.le_refl _
  obtain ⟨k1, k2, l1, l2⟩ := law_plain (ah1 := ah1) (ah2 := ah2) hnd' (Nat.le_of_eq hml) hs2 hL1.le hL2.le hL1.ne hL2.ne hL1.len hL2.len hO.1 b1 b2 b3 b4 b5 b6 hS.symm hA1 hA2
  have hr0 : S0.rows = [] := by rw [← hS]
  have hsv0 : S0.sv = S0.nk := by rw [← hS]
  have hnt0 : S0.nt = none := by rw [← hS]
  have htx0 : S0.tx.length ≤ 20 := by rw [← hS]; exact Nat.le_trans hs2 (by decide)
  have hps0 : S0.ms.map (·.p) = ps := by rw [← hS]; exact hps
  obtain ⟨⟨nb1, nb2, lr1, lr2, pp1, pp2⟩, S3, S4, S5, S6, hU1, hU2, t3, y3, t4, y4, i3, i4, t5, t6, lr4, pp4⟩ := plain hp3 hnd b1 hps0 hr0 hsv0 hnt0 htx0 k1 hA1 l1 k2 hA2 l2
  have hturn := law_turn hL1 hL2 k1 k2 hr0 hsv0 hnt0 htx0 hA1 l1 hA2 nb1 nb2 lr1 lr2 pp1 pp2
  have hlr2 : A2.rows.length ≤ 900 := by rw [hA2]; show (_ ++ [RW.b]).length ≤ 900; rw [len1_app]; exact Nat.le_trans (Nat.succ_le_succ lr2) (by decide)
  rw [← hgb] at hU1 hU2 hturn b1
  clear k1 k2 l1 l2 lr1 lr2 nb1 nb2 hA1 hA2 hr0 hsv0 hnt0 htx0 hO hbz b2 b3 b4 b5 b6 hgb hnd' hmb hAB hsz hMs hB hTP hmk pp1
  -- the first state told
  have hst0 := state_S g q T S0 om ps hSt hps0
  refine' X.assignE rfl (Ex.listX (Exs.cons rfl (Ex.call hst0 ?ha ?Sp ?hn ?hk ?hg ?hlv ?hp)))
  case ha => walk_at "h_evs"
  case Sp => walk_at "h_split"
  case hn => k_is
  case hk => k_is
  case hg => kernel_rfl
  case hlv => rfl
  case hp =>
  intro d0 a0 p0
  (simp only [List.cons_append, List.append_nil])
  refine' Exs.nil ⟨Nat.le_of_ble_eq_true rfl, fun sl0 => ⟨_, ?y1, ?y2⟩⟩
  case y1 => walk_at "h_setl"
  case y2 =>
  obtain ⟨T0, hT0⟩ : ∃ T0 : ALed, T0 = (d0, .tup [.ref a0, .ref p0]) :: (a0, .list (iv S0.tx)) :: (p0, .list (iv (S0.ms.map (·.y)))) :: T := ⟨_, rfl⟩
  have hTT : ∀ p ∈ T, p ∈ T0 := fun p hp => by rw [hT0]; exact .tail _ (.tail _ (.tail _ hp))
  have hTS0 : TSs T0 [.ref d0] [S0] := .cons (a := a0) ⟨⟨p0, by rw [hT0]; exact .head _, by rw [hT0]; exact .tail _ (.tail _ (.head _))⟩, by rw [hT0]; exact .tail _ (.head _)⟩ .nil
  refine' X.drop (led1 := (sl0, .list [.ref d0]) :: (om, .list (ps.map .ref)) :: stL g q T0) ?y3 ?y4
  case y3 => rw [hT0]; walk_at "h_split"
  case y4 =>
  have hSt0 := hSt.mon hTT
  clear hT0 hSt hst0
  -- the two edits
  refine' X.forEn [.ref e1, .ref e2] (LwF _ sg mk sl0 om e1 e2 ss ps jB jC x2 x3 x4 x5 x6 bnV g T S0 A1 A2) rfl ?z1 ?z2 (Ex.tup (vs := [.ref e1, .ref e2]) ?z3 rfl fun ax => ⟨ax, _, rfl, Rem.head, x1, none, none, [.ref d0], q, T0, rfl, hSt0, hTT, hTS0, rfl⟩) ?z4 ?z5 (fun _ => rfl)
  case z1 => k_is
  case z2 => kernel_rfl
  case z3 => walk_at "h_evs"
  case z5 =>
    rintro i v I1 I2 ax o1 o2 o lo led hv ⟨ya, ye, yf, ds, q1, T1, rfl, hSt1, hT1, hTS, rfl⟩
    obtain ⟨e, ce, s, n', cs, ah, mo, rfl, hE, hmo, hok, hat, hla, hrl, htl, hnx, hnb, hrl2, hps2, hsl, hsl3⟩ := hturn i v hv
    have hE1 := hE.mono hT1
    have hF1 := (hL1.mono hT1).tup
    have hF2 := (hL1.mono hT1).ls
    have hE2 := hE1.tup
    have hcz : (iv cs1).length < 2 ^ 62 := by rw [iv, List.length_map]; exact Nat.lt_of_le_of_lt hL1.len (by decide)
    clear hTS0 hSt0 hTT hU1 hU2 hturn hv
    refine' ⟨_, .cons ?p1 (.cons ?p2 .nil), ?p3⟩
    case p1 => walk_at "h_setl"
    case p2 => walk_at "h_setl"
    case p3 =>
    refine' X.assign (v := .int mo 0) ?p4 rfl ?p5 ?p6
    case p4 => walk_at "h_setl"
    case p5 =>
      rcases hmo with ⟨rfl, rfl⟩ | ⟨rfl, rfl, rfl⟩
      · refine' Ev.iteT (Ts.to (Ts.or (p := true) (q := true) (Ts.to (Ts.cmp ?r1 Ev.int Cmp.eq rfl) ?g1) fun h => absurd h.symm Bool.false_ne_true) rfl) Ev.int
        case r1 => walk_at "h_ev"
        case g1 => rfl
      · unfold mo2
        split
        · rename_i hlt
          refine' Ev.iteT (Ts.to (Ts.or (p := false) (q := true) (Ts.to (Ts.cmp ?r2 Ev.int Cmp.eq rfl) ?g2) fun _ => Ts.to (Ts.or (p := true) (q := true) (Ts.to (Ts.cmp ?r3 ?r4 Cmp.lt rfl) (decide_eq_true hlt)) fun h => absurd h.symm Bool.false_ne_true) rfl) rfl) Ev.int
          case r2 => walk_at "h_ev"
          case g2 => rfl
          case r3 => walk_at "h_ev"
          case r4 => walk_at "h_ev"
        · rename_i hlt
          refine' Ev.iteF (Ts.to (Ts.or (p := false) (q := false) (Ts.to (Ts.cmp ?r5 Ev.int Cmp.eq rfl) ?g5) fun _ => Ts.to (Ts.or (p := false) (q := false) (Ts.to (Ts.cmp ?r6 ?r7 Cmp.lt rfl) (decide_eq_false hlt)) fun _ => Ts.orNil) rfl) rfl) ?r8
          case r5 => walk_at "h_ev"
          case g5 => rfl
          case r6 => walk_at "h_ev"
          case r7 => walk_at "h_ev"
          case r8 => walk_at "h_ev"
    case p6 =>
    have hdn := done_S g q1 T1 (sq S0 A1 A2 i) s n' mo e ce cs ah hE1.ls hE1.tup hSt1 b1 hrl htl hok hat hla
    clear hok hat hla hrl htl hF1 hF2 hE hE1 hE2 hmo hcz hSt1
    generalize edS (edOf s n' cs ah mo) (sq S0 A1 A2 i) = SX at hdn hnx hnb hrl2
    refine' X.expr rfl ?_
    refine' Ex.call hdn ?ha ?Sp ?hn ?hk ?hg ?hlv ?hp
    case ha => walk_at "h_evs"
    case Sp => walk_at "h_split"
    case hn => k_is
    case hk => k_is
    case hg => kernel_rfl
    case hlv => rfl
    case hp =>
    intro d9 q2 T2 hT2 hSt2
    (simp only [List.cons_append, List.append_nil, List.append_assoc (List.map (mkA _) _)])
    refine' X.drop (led1 := (I1, .obj o1) :: (I2, .obj o2) :: (ax, .obj o) :: (sl0, .list ds) :: (om, .list (ps.map .ref)) :: stL g q2 T2) ?p7 ?p8
    case p7 => walk_at "h_split"
    case p8 =>
    refine' X.expr rfl ?_
    refine' Ex.meth (boundary_H g.u q2.rl (ntV q2.nt) q2.vs T2 (by rw [hSt2.rows.len]; exact Nat.le_trans hrl2 (by decide)) (hSt2.rows.nbd hnb)) ?ho ?hm ?ha2 ?Sp2 ?hns ?hno ?h1 ?h2 ?h3 ?hk2 ?hl2 ?he ?hp2
    case ho => walk_at "h_ev"
    case hm => walk_at "h_mem"
    case ha2 => walk_at "h_evs"
    case Sp2 => walk_at "h_split"
    case hns => rfl
    case hno => kernel_rfl
    case h1 => k_is
    case h2 => k_is
    case h3 => k_is
    case hk2 => k_is
    case hl2 => rfl
    case he => exact fun _ => rfl
    case hp2 =>
    refine' X.drop (led1 := (I1, .obj o1) :: (I2, .obj o2) :: (ax, .obj o) :: (sl0, .list ds) :: (om, .list (ps.map .ref)) :: stL g { q2 with vs := q2.vs ++ [.ref 190] } T2) ?p9 ?q1
    case p9 => (simp only [List.cons_append]); walk_at "h_split"
    case q1 =>
    have hSt3 : StIs g { q2 with vs := q2.vs ++ [.ref 190] } T2 (bndS SX) := ⟨hSt2.tx, hSt2.sz, hSt2.ms, hSt2.zv, hSt2.nk, hSt2.sv, hSt2.nt, hSt2.rows.app (.cons .b .nil), hSt2.asc, hSt2.mz, hSt2.r0, hSt2.r1⟩
    rw [← hnx] at hSt3
    have hst := state_S g { q2 with vs := q2.vs ++ [.ref 190] } T2 _ om ps hSt3 hps2
    clear hnx hnb hrl2 hSt2
    refine' X.expr rfl ?_
    walk_at "h_appendE"
    case he =>
    refine' Ex.call hst ?q2 ?q3 ?q4 ?q5 ?q6 ?q7 ?q8
    case q2 => walk_at "h_evs"
    case q3 => walk_at "h_split"
    case q4 => k_is
    case q5 => k_is
    case q6 => kernel_rfl
    case q7 => rfl
    case q8 =>
    intro d a p
    (simp only [List.cons_append, List.append_nil, List.append_assoc (List.map (mkA _) _)])
    refine' ⟨_, _, ?q9, by rw [hTS.len]; exact Nat.le_trans hsl3 (by decide), ?v1⟩
    case q9 => walk_at "h_rep"
    case v1 =>
    refine' X.tend (led5 := (sl0, .list (ds ++ [.ref d])) :: (om, .list (ps.map .ref)) :: stL g { q2 with vs := q2.vs ++ [.ref 190] } ((d, .tup [.ref a, .ref p]) :: (a, .list (iv (sq S0 A1 A2 (i + 1)).tx)) :: (p, .list (iv ((sq S0 A1 A2 (i + 1)).ms.map (·.y)))) :: T2)) ?v2 ?v3 ⟨_, _, _, ds ++ [.ref d], { q2 with vs := q2.vs ++ [.ref 190] }, (d, .tup [.ref a, .ref p]) :: (a, .list (iv (sq S0 A1 A2 (i + 1)).tx)) :: (p, .list (iv ((sq S0 A1 A2 (i + 1)).ms.map (·.y)))) :: T2, rfl, hSt3.mon ?v4, ?v5, ?v6, rfl⟩
    case v2 => walk_at "h_split"
    case v3 => walk_at "h_split"
    case v4 => exact fun p hp => .tail _ (.tail _ (.tail _ hp))
    case v5 => exact fun p hp => .tail _ (.tail _ (.tail _ (hT2 p (hT1 p hp))))
    case v6 =>
      rw [hsl]
      exact (hTS.mono fun p hp => .tail _ (.tail _ (.tail _ (hT2 p hp)))).app (.cons (a := a) ⟨⟨p, .head _, .tail _ (.tail _ (.head _))⟩, .tail _ (.head _)⟩ .nil)
  case z4 =>
  rintro lo led ⟨ya, ye, yf, ds, q1, T1, rfl, hSt1, hT1, hTS, rfl⟩
  obtain ⟨d0', d1, d2, a0', a1, a2, rfl, hD0, hD1, hD2⟩ := hTS.three
  clear hTS0 hSt0 hTT hturn hTS
  -- both undone
  have hSt1' : StIs g q1 T1 A2 := hSt1
  have hun : HSpec 12 788 [.ref g.b, .int 2 0, .ref om] ((om, .list (ps.map .ref)) :: stL g q1 T1) fun K => ∀ (Fd : Addr) (fv : List Value) (q' : VQ) (T' : ALed), (∀ p ∈ T1, p ∈ T') → StIs g q' T' (bndS S4) → FEs T' fv [S3, S4] → K (.ref Fd) ((Fd, .list fv) :: (om, .list (ps.map .ref)) :: stL g q' T') := undone_S g q1 T1 A2 (bndS S4) om ps [S3, S4] 2 rfl hSt1' pp2 hU1 b1 hlr2 (by decide)
  clear hSt1 hSt1' hU1 hlr2 pp2
  refine' X.iteE (TsE.cmp (Ex.call hun ?ha ?Sp ?hn ?hk ?hg ?hlv ?hp) rfl)
  case ha => walk_at "h_evs"
  case Sp => walk_at "h_split"
  case hn => k_is
  case hk => k_is
  case hg => kernel_rfl
  case hlv => rfl
  case hp =>
  intro Fd fv q2 T2 hT2 hSt2 hF
  obtain ⟨f1, f2, f3, f4, f5, f6, rfl, hf1, hf2, hf3, hf4⟩ := hF.two
  rw [i3] at hf1
  rw [i4] at hf2
  have hE0 := hD0.mono hT2
  have hE1 := hD1.mono hT2
  have hE2 := hD2.mono hT2
  clear hun hF hD0 hD1 hD2
  (simp only [List.cons_append, List.append_nil, List.append_assoc (List.map (mkA _) _)])
  refine' Ex.listX (Exs.cons rfl (Ex.tupX (Exs.ev rfl ?w1 (Exs.ev rfl Ev.bool (Exs.nil ⟨Nat.le_of_ble_eq_true rfl, fun w1 => Exs.cons rfl (Ex.tupX (Exs.ev rfl ?w2 (Exs.ev rfl Ev.bool (Exs.nil ⟨Nat.le_of_ble_eq_true rfl, fun w2 => Exs.nil ⟨Nat.le_of_ble_eq_true rfl, fun w3 => ⟨!true, Cmp.neD
    (AD.list ?m1 (.cons (.tup ?m2 (.cons (hf3.ad ?m3) (.cons .bool .nil))) (.cons (.tup ?m4 (.cons (hf4.ad ?m5) (.cons .bool .nil))) .nil)))
    (AD.list ?m6 (.cons (.tup ?m7 (.cons (hE1.ad ?m8) (.cons .bool .nil))) (.cons (.tup ?m9 (.cons (hE0.ad ?m10) (.cons .bool .nil))) .nil))) (shFF _ _ _ _) (shFF _ _ _ _) (by decide) (by rw [t3, y3, t4, y4]; exact eqFF _ _ _ _), fun h => absurd h Bool.false_ne_true, fun _ => ?w3⟩⟩⟩))))⟩)))))
  case w1 => walk_at "h_ev"
  case w2 => walk_at "h_ev"
  case m1 => walk_at "h_mem"
  case m2 => walk_at "h_mem"
  case m3 => (intro p hp; walk_at "h_mem")
  case m4 => walk_at "h_mem"
  case m5 => (intro p hp; walk_at "h_mem")
  case m6 => walk_at "h_mem"
  case m7 => walk_at "h_mem"
  case m8 => (intro p hp; walk_at "h_mem")
  case m9 => walk_at "h_mem"
  case m10 => (intro p hp; walk_at "h_mem")
  case w3 =>
  clear hf1 hf2 hf3 hf4 hE0
  refine' X.nilT ?_
  refine' X.drop (led1 := (sl0, .list [.ref d0', .ref d1, .ref d2]) :: (om, .list (ps.map .ref)) :: stL g q2 T2) ?w4 ?w5
  case w4 => walk_at "h_split"
  case w5 =>
  have hun : HSpec 12 788 [.ref g.b, .int 2 0, .ref om] ((om, .list (ps.map .ref)) :: stL g q2 T2) fun K => ∀ (Fd : Addr) (fv : List Value) (q' : VQ) (T' : ALed), (∀ p ∈ T2, p ∈ T') → StIs g q' T' (bndS S6) → FEs T' fv [S5, S6] → K (.ref Fd) ((Fd, .list fv) :: (om, .list (ps.map .ref)) :: stL g q' T') := undone_S g q2 T2 (bndS S4) (bndS S6) om ps [S5, S6] 2 rfl hSt2 pp4 hU2 b1 (Nat.le_trans lr4 (by decide)) (by decide)
  clear hSt2 hU2
  refine' X.assignE rfl (Ex.call hun ?ha3 ?Sp3 ?hn3 ?hk3 ?hg3 ?hl3 ?hp3)
  case ha3 => walk_at "h_evs"
  case Sp3 => walk_at "h_split"
  case hn3 => k_is
  case hk3 => k_is
  case hg3 => kernel_rfl
  case hl3 => rfl
  case hp3 =>
  intro Fe fw q3 T3 hT3 hSt3 hF
  obtain ⟨f1, f2, f3, f4, f5, f6, rfl, hf1, hf2, hf3, hf4⟩ := hF.two
  obtain ⟨⟨z1, z2, -⟩, z3⟩ := hE1.mono hT3
  obtain ⟨⟨z4, z5, -⟩, z6⟩ := hE2.mono hT3
  obtain ⟨⟨z7, z8, -⟩, z9⟩ := hf3
  obtain ⟨⟨u7, u8, -⟩, u9⟩ := hf4
  clear hun hF hE1 hE2
  (simp only [List.cons_append, List.append_nil, List.append_assoc (List.map (mkA _) _)])
  refine' ⟨_, ?n1, X.retP (Ex.cmp (Ex.comp2 (cl := []) (ax := Fe) (t1 := f1) (t2 := f2) (d1 := f3) (d2 := f4) ?n2 ?n3 ?n4 ?n5 ?n6 ?n7 ?n8 ?n9 ?o1 ?o2 ?o3 ?o4 ?o5 ?o6 fun D => Ex.list ?o7 ?o8 fun w => ⟨true, Cmp.eqD
    (AD.list ?o9 (.cons (.list ?s1 (ads_iv _)) (.cons (.list ?s2 (ads_iv _)) .nil))) (AD.list ?s3 (.cons (.list ?s4 (ads_iv _)) (.cons (.list ?s5 (ads_iv _)) .nil))) (shTT _ _) (shTT _ _) (by decide) ?s6, [], _, .nil, rfl⟩) rfl)⟩
  case n1 => walk_at "h_setl"
  case n2 => rfl
  case n3 => kernel_rfl
  case n4 => rfl
  case n5 => kernel_rfl
  case n6 => kernel_rfl
  case n7 => kernel_rfl
  case n8 => decide +kernel
  case n9 => kernel_rfl
  case o1 => walk_at "h_mem"
  case o2 => walk_at "h_mem"
  case o3 => walk_at "h_mem"
  case o4 => walk_at "h_mem"
  case o5 => walk_at "h_mem"
  case o6 => walk_at "h_mem"
  case o7 => walk_at "h_evs"
  case o8 => rfl
  case o9 => walk_at "h_mem"
  case s1 => walk_at "h_mem"
  case s2 => walk_at "h_mem"
  case s3 => walk_at "h_mem"
  case s4 => walk_at "h_mem"
  case s5 => walk_at "h_mem"
  case s6 => rw [t5, t6]; exact eqTT _ _
set_option Elab.async false
theorem lawDone : True := trivial
end
end Mine
theorem PySem.Challenge.cw_np0100_01_holds : PySem.Challenge.rw_np0100_01.Holds := by
  exact Mine.lawx
