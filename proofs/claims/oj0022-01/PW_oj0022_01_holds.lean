import PyProof.Rows.All
import Wide.All
import OpenK.AllK
import Wide.FinOn
import Lean
import PySem.Challenge.RW_oj0022_01
open PySem PySem.W PyProof.Rows
set_option Elab.async false
namespace Mine
section
local macro_rules | `(tactic| o_head (kHook $k $_a $_p)) => `(tactic| (rotate_left; exact $k; contradiction))
set_option maxRecDepth 100000 in
set_option maxHeartbeats 8000000 in
noncomputable def K0 : Params → Frag := by
  refine (?g : (Params → Frag) → (False → PySem.Challenge.rw_oj0022_01.row.Holds) → Params → Frag) ?F ?h
  case g => exact fun F _ => F
  rotate_left
  intro hF
  k_head
end
set_option maxRecDepth 100000 in
/-- the fragment, written out once -/
noncomputable def KF : Params → Frag := by
  intro P
  refine (fun (_ : (Str.ofString "X").cps.size = 1) => ?_) (by decide +kernel)
  refine' (?f : (x : Frag) → x = K0 P → Frag) _ ?e
  case e => (conv => rhs; whnf)
  case f => exact fun x _ => x
section
local macro_rules | `(tactic| o_head (kHook $_k $a $p)) => `(tactic| o_head ((kHook Mine.KF $a $p)))
set_option maxRecDepth 100000 in
set_option maxHeartbeats 8000000 in
open_top hd for PySem.Challenge.rw_oj0022_01
end
end Mine
section
namespace Mine
theorem fillK : (fun (_ : OpenLaw) (_ : Params → Frag) => True) PySem.Challenge.rw_oj0022_01 Mine.KF := by
  k_fill
  trivial
noncomputable abbrev KK (w : World) : Frag := KF w.params
noncomputable abbrev LL : List Str := looseW hd.view_39 [Str.ofString "ALT", Str.ofString "SUPER", Str.ofString "HYPER", Str.ofString "SHIFT", Str.ofString "CONTROL",
      Str.ofString "META", Str.ofString "CODES", Str.ofString "BITS", Str.ofString "single_key_description"]
noncomputable abbrev PG : Program := PySem.Challenge.rw_oj0022_01.row.prog


/-- everything but the addresses as is as it was -/
noncomputable def KeptBut (as : List Addr) (h h' : Heap) : Prop := ∀ b o, h.get? b = some o → b ∉ as → h'.get? b = some o
/-- what the call hands on is its own, or new -/
noncomputable def OwnOrNew (as : List Addr) (h : Heap) (own' : List (Addr × Obj)) : Prop := ∀ p ∈ own', p.1 ∈ as ∨ h.get? p.1 = none

/-- a def's contract: called with vs where the ledger is own, it hands back r and leaves own' in its place (R r own'); all else stays -/
noncomputable abbrev Calls (f : Addr) (d u : Nat) (vs : List Value) (own : List (Addr × Obj)) (R : Value → List (Addr × Obj) → Prop) : Prop :=
  ∀ (w : World) (mean : ExcName → Option Value) (mg mb : Str → Option Value) (dp un : Nat) (gd : Option (List Code)) (cn : Str) (cs : Scope) (a : Addr) (ccd : Value) (cl : List (Str × Addr)) (outer : List Env) (A₀ : Around) (base h₀ : Heap) (L : Addr) (m : Str → Option Value) (s : Shared) (Q E : Value → Shared → Prop),
    Below A₀ base outer h₀ → Fr h₀ L s.heap m → (KF w.params).In h₀ → News h₀ L s.heap own → Top hd.view_39 LL mean mg mb h₀ → cs.kind = .function → dp + d < recursionLimit → un + u < cLine →
    (∀ (r : Value) (own' : List (Addr × Obj)) (h' : Heap) (tk' : Nat), Fr h₀ L h' m → News h₀ L h' own' → KeptBut (own.map (·.1)) s.heap h' → OwnOrNew (own.map (·.1)) s.heap own' → R r own' → Q r { s with heap := h', toks := tk' }) →
    wpAny (model PG w) (ktrTop dp un gd cn cs L a ccd cl outer) (call (.ref f) vs) Q E s

/-- the end of a way through the body -/
noncomputable def LeaveO (g : Heap) (s : Shared) (R : Value → List (Addr × Obj) → Prop) (v : Value) (s' : Shared) : Prop :=
  ∃ L' m' own', Fr g L' s'.heap m' ∧ News g L' s'.heap own' ∧ (∃ h tk, s' = { s with heap := h, toks := tk }) ∧ R v own'

section
variable {w : World} {A₀ A : Around} {s : Shared} {base h₀ : Heap} {outer : List Env} {L : Addr} {m mg mb : Str → Option Value} {env : Env} {own : List (Addr × Obj)} {K : Frag} {p : Program} {loose : List Str} {mean : ExcName → Option Value} {prog : Program}
  {R : Value → List (Addr × Obj) → Prop} {Q E : Value → Shared → Prop} {name qual : Str} {params : Arguments} {body : List Stmt} {scope : Scope} {dV kV doc pm cdv ct oc : Value} {an od : Option Addr} {osl : Array (Option Value)} {f : Addr} {args : Args} {binds : List (Str × Value)}

theorem leaveO_ground (B : Below A₀ base outer h₀) (F : Fr h₀ L s.heap m) (N : News h₀ L s.heap own) (hA : A.frames = some (env :: outer)) (hf : env.frame = some L) (hke : env.scope.kind = .function)
    (hret : ∀ (r : Value) (own' : List (Addr × Obj)) (h' : Heap) (tk' : Nat), Fr h₀ L h' m → News h₀ L h' own' → KeptBut (own.map (·.1)) s.heap h' → OwnOrNew (own.map (·.1)) s.heap own' → R r own' → Q r { s with heap := h', toks := tk' }) :
    ∀ v s', LeaveO (hideAll s.heap (own.map (·.1))) s R v s' → Q v s' := by
  rintro v s' ⟨L', m', own', F', N', ⟨h', tk', rfl⟩, hR⟩
  obtain ⟨_, _, _, lv⟩ := groundX (A := A) (R := fun r s'' => r = .ok (.ret v) → ∃ own'', own'' = own' ∧ Fr h₀ L s''.heap m ∧ News h₀ L s''.heap own'') B F N hA hf hke
  obtain ⟨own'', e, F'', N''⟩ := lv v { s with heap := h', toks := tk' } ⟨L', m', own', F', N', fun a b _ => ⟨own', rfl, a, b⟩⟩ rfl
  subst e
  exact hret v own'' h' tk' F'' N'' (fun b o e n => F'.keep b o (hideAll_get _ e n)) (fun p hp => by
    by_cases q : p.1 ∈ own.map (·.1)
    · exact .inl q
    · refine .inr ?_
      cases e : s.heap.get? p.1 with
      | none => rfl
      | some o => have := (N' p hp).2.2; rw [hideAll_get _ e q] at this; cases this) hR

theorem code_own (B : Below A₀ base outer h₀) (F : Fr h₀ L s.heap m) (X₀ : K.In h₀) (N : News h₀ L s.heap own) (T : Top p loose mean mg mb h₀) (hA : A.frames = some (env :: outer)) (hf : env.frame = some L) (hke : env.scope.kind = .function)
    (ho : K.lookup f = some ⟨oc, od, .func (fnOf name qual params body scope dV kV doc pm an cdv ct), osl⟩) (hcd : codeIn K cdv qual = true) (hroom : A.depth < recursionLimit)
    (hbind : BindsTo s (fnOf name qual params body scope dV kV doc pm an cdv ct) args binds) (hloc : ∀ y ∈ binds, scope.names.lookup y.1 = some .local)
    (hret : ∀ (r : Value) (own' : List (Addr × Obj)) (h' : Heap) (tk' : Nat), Fr h₀ L h' m → News h₀ L h' own' → KeptBut (own.map (·.1)) s.heap h' → OwnOrNew (own.map (·.1)) s.heap own' → R r own' → Q r { s with heap := h', toks := tk' })
    (h : ∀ g L' h₁, Fr g L' h₁ (fun y => binds.reverse.lookup y) → News g L' h₁ own → Below A base (env :: outer) g → K.In g → Top p loose mean mg mb g →
      wpAny (model prog w) (A.deeper (envOf qual scope L' f cdv)) (execs body (envOf qual scope L' f cdv))
        (fun fl s' => LeaveO g s R (match fl with | .ret v => v | _ => .none) s') (fun _ _ => False)
        { s with heap := h₁, toks := s.toks + binds.length })
    (hco : scope.isCoroutine = false) (hgen : scope.isGenerator = false) (hk : scope.kind = .function)
    (hcell : ∀ x ∈ scope.names, x.2 ≠ .cell) : codeAny (model prog w) A (.call (.ref f) args) (fun r s' => match r with | .ok (.ret v) => Q v s' | .ok _ => False | .error e => E e s') s := by
  obtain ⟨FG, BG, st, _⟩ := groundX (R := fun _ _ => True) B F N hA hf hke
  refine codeAny_call_def (fd := fnOf name qual params body scope dV kV doc pm an cdv ct) (body := body) (binds := binds) hroom ((X₀.keeps F.keep) _ _ ho) rfl (T.nolimit.keeps F.keep) (codeRec_of (X₀.keeps F.keep) hcd) rfl hbind hcell hloc (fun h₁ hns hk₁ => ?_) hco hgen hk
  exact wpAny_mono (h _ s.heap.objs.size h₁ ⟨hns, fun b o e => hk₁ b o (of_hideAll _ e), Nat.le_of_eq (hideAll_size _ _)⟩
    (fun p hp => ⟨hk₁ _ _ (N p hp).1, Nat.ne_of_lt (Heap.lt_size (N p hp).1), hideAll_none _ (List.mem_map_of_mem hp)⟩) BG (X₀.keeps st) (T.keeps st))
    (fun fl s' hl => leaveO_ground B F N hA hf hke hret _ _ hl) fun _ _ y => y.elim

theorem code_ownC (B : Below A₀ base outer h₀) (F : Fr h₀ L s.heap m) (X₀ : K.In h₀) (N : News h₀ L s.heap own) (T : Top p loose mean mg mb h₀) (hA : A.frames = some (env :: outer)) (hf : env.frame = some L) (hke : env.scope.kind = .function)
    (ho : K.lookup f = some ⟨oc, od, .func (fnOf name qual params body scope dV kV doc pm an cdv ct), osl⟩) (hcd : codeIn K cdv qual = true) (hroom : A.depth < recursionLimit)
    (hbind : BindsTo s (fnOf name qual params body scope dV kV doc pm an cdv ct) args binds) (hkind : (binds.all fun y => scope.names.lookup y.1 == some .local || scope.names.lookup y.1 == some .cell) = true)
    (hnd : ((cellsFrom 0 scope.names []).map (·.1)).Nodup)
    (hret : ∀ (r : Value) (own' : List (Addr × Obj)) (h' : Heap) (tk' : Nat), Fr h₀ L h' m → News h₀ L h' own' → KeptBut (own.map (·.1)) s.heap h' → OwnOrNew (own.map (·.1)) s.heap own' → R r own' → Q r { s with heap := h', toks := tk' })
    (h : ∀ g L' h₁ tk cells, Fr g L' h₁ (bindL (envOfC qual scope L' f cdv).kindOf binds fun _ => none) → News g L' h₁ (cells ++ own) →
      CellsAre (bindC (envOfC qual scope L' f cdv).kindOf binds fun _ => none) (cellsFrom (L' + 1) scope.names []) cells → Below A base (env :: outer) g → K.In g → Top p loose mean mg mb g → (∀ p ∈ own, p.1 < L') →
      wpAny (model prog w) (A.deeper (envOfC qual scope L' f cdv)) (execs body (envOfC qual scope L' f cdv))
        (fun fl s' => LeaveO g s R (match fl with | .ret v => v | _ => .none) s') (fun _ _ => False)
        { s with heap := h₁, toks := tk })
    (hco : scope.isCoroutine = false) (hgen : scope.isGenerator = false) (hk : scope.kind = .function) : codeAny (model prog w) A (.call (.ref f) args) (fun r s' => match r with | .ok (.ret v) => Q v s' | .ok _ => False | .error e => E e s') s := by
  obtain ⟨FG, BG, st, _⟩ := groundX (R := fun _ _ => True) B F N hA hf hke
  have ho' := (X₀.keeps F.keep) _ _ ho
  refine codeAny_call_function (fd := fnOf name qual params body scope dV kV doc pm an cdv ct) hroom ho' rfl hco hgen rfl (codeRec_of (X₀.keeps F.keep) hcd) (hbind _ _ _ _ ?_)
  refine wpAny_newFunctionEnv_cells hk (kindsX hkind _) fun env' he s' x => ?_
  subst he
  refine ⟨(T.nolimit.keeps F.keep).keeps x.toInCall.keep, codeAny_func ?_⟩
  obtain ⟨h₁, tk, rfl, _⟩ := x.done
  have hk₁ := x.toInCall.keep
  obtain ⟨cells, NC, Y⟩ := Cl.news (h₀ := s.heap) (Nat.le_refl _) fun n c hm => ⟨x.cell n c (lookup_of_mem_nodup (cellsFrom_names scope.names 0 (s.heap.objs.size + 1) [] [] rfl ▸ hnd) hm), x.above n c hm⟩
  refine wpAny_mono (h _ s.heap.objs.size h₁ tk cells ⟨x.toInCall.ns, fun b o e => hk₁ b o (of_hideAll _ e), Nat.le_of_eq (hideAll_size _ _)⟩ (fun p hp => ?_) Y BG (X₀.keeps st) (T.keeps st) (fun p hp => Heap.lt_size (N p hp).1))
    (fun fl s' hl => leaveO_ground B F N hA hf hke hret _ _ hl) fun _ _ y => y.elim
  rcases List.mem_append.mp hp with hp | hp
  · refine ⟨(NC p hp).1, (NC p hp).2.1, ?_⟩
    cases q : (hideAll s.heap (own.map (·.1))).get? p.1 with
    | none => rfl
    | some o => have := of_hideAll _ q; rw [(NC p hp).2.2] at this; cases this
  · exact ⟨hk₁ _ _ (N p hp).1, Nat.ne_of_lt (Heap.lt_size (N p hp).1), hideAll_none _ (List.mem_map_of_mem hp)⟩
end

/-- a call by its contract: own is the part of the ledger that it touches, rest all else -/
theorem Calls.use {f : Addr} {d u : Nat} {vs : List Value} {own : List (Addr × Obj)} {R : Value → List (Addr × Obj) → Prop} (C : Calls f d u vs own R)
    {w : World} {mean : ExcName → Option Value} {mg mb : Str → Option Value} {dp un : Nat} {gd : Option (List Code)} {cn : Str} {cs : Scope} {a : Addr} {ccd : Value} {cl : List (Str × Addr)} {outer : List Env} {A₀ : Around} {base h₀ : Heap} {L : Addr} {m : Str → Option Value} {s : Shared} {Q E : Value → Shared → Prop} {news : List (Addr × Obj)}
    (B : Below A₀ base outer h₀) (F : Fr h₀ L s.heap m) (X : (KF w.params).In h₀) (N : News h₀ L s.heap news) (T : Top hd.view_39 LL mean mg mb h₀) (hk : cs.kind = .function) (hdp : dp + d < recursionLimit) (hun : un + u < cLine)
    (rest : List (Addr × Obj)) (hown : ∀ p ∈ own, p ∈ news) (hrest : ∀ p ∈ rest, p ∈ news) (hoff : ∀ p ∈ rest, ∀ q ∈ own, p.1 ≠ q.1)
    (ret : ∀ (r : Value) (own' : List (Addr × Obj)) (h' : Heap) (tk' : Nat), Fr h₀ L h' m → News h₀ L h' (own' ++ rest) → (∀ p ∈ own', p.1 ∈ own.map (·.1) ∨ ∀ q ∈ rest, q.1 ≠ p.1) → R r own' → Q r { s with heap := h', toks := tk' }) :
    wpAny (model PG w) (ktrTop dp un gd cn cs L a ccd cl outer) (call (.ref f) vs) Q E s := by
  refine C _ _ _ _ _ _ _ _ _ _ _ _ _ _ _ _ _ _ _ _ _ B F X (fun p hp => N p (hown p hp)) T hk hdp hun fun r own' h' tk' F' N' kb on hR => ret r own' h' tk' F' (fun p hp => ?_) (fun p hp => ?_) hR
  · rcases List.mem_append.mp hp with hp | hp
    · exact N' p hp
    · refine ⟨kb _ _ (N p (hrest p hp)).1 fun q => ?_, (N p (hrest p hp)).2⟩
      obtain ⟨q, hq, e⟩ := List.mem_map.mp q
      exact hoff p hp q hq e.symm
  · refine (on p hp).imp id fun e q hq e' => ?_
    rw [← e', (N q (hrest q hq)).1] at e; cases e
/-- a call that touches nothing of the ledger and hands back no object -/
theorem Calls.use0 {f : Addr} {d u : Nat} {vs : List Value} {R : Value → List (Addr × Obj) → Prop} (C : Calls f d u vs [] R)
    {w : World} {mean : ExcName → Option Value} {mg mb : Str → Option Value} {dp un : Nat} {gd : Option (List Code)} {cn : Str} {cs : Scope} {a : Addr} {ccd : Value} {cl : List (Str × Addr)} {outer : List Env} {A₀ : Around} {base h₀ : Heap} {L : Addr} {m : Str → Option Value} {s : Shared} {Q E : Value → Shared → Prop} {news : List (Addr × Obj)}
    (B : Below A₀ base outer h₀) (F : Fr h₀ L s.heap m) (X : (KF w.params).In h₀) (N : News h₀ L s.heap news) (T : Top hd.view_39 LL mean mg mb h₀) (hk : cs.kind = .function) (hdp : dp + d < recursionLimit) (hun : un + u < cLine)
    (ret : ∀ (r : Value) (own' : List (Addr × Obj)) (h' : Heap) (tk' : Nat), Fr h₀ L h' m → News h₀ L h' (own' ++ news) → (∀ p ∈ own', ∀ q ∈ news, q.1 ≠ p.1) → R r own' → Q r { s with heap := h', toks := tk' }) :
    wpAny (model PG w) (ktrTop dp un gd cn cs L a ccd cl outer) (call (.ref f) vs) Q E s :=
  C.use B F X N T hk hdp hun news (fun _ h => nomatch h) (fun _ h => h) (fun _ _ _ h => nomatch h) fun r own' h' tk' F' N' on hR => ret r own' h' tk' F' N' (fun p hp => (on p hp).elim (fun h => nomatch h) id) hR

/-- what comes back; what is left is forgotten -/
noncomputable def RInt (x : Int) (r : Value) (_own' : List (Addr × Obj)) : Prop := ∃ t, r = .int x t
noncomputable def RStr (x : Str) (r : Value) (_own' : List (Addr × Obj)) : Prop := ∃ t, r = .str x t
noncomputable def RVal (v : Value) (r : Value) (_own' : List (Addr × Obj)) : Prop := r = v
theorem RInt.mk {x y : Int} {t : Tok} {own : List (Addr × Obj)} (e : y = x) : RInt x (.int y t) own := ⟨t, by rw [e]⟩
theorem RStr.mk {x y : Str} {t : Tok} {own : List (Addr × Obj)} (e : y = x) : RStr x (.str y t) own := ⟨t, by rw [e]⟩
theorem RVal.bool {x y : Bool} {own : List (Addr × Obj)} (e : y = x) : RVal (.bool x) (.bool y) own := by rw [e]; rfl
theorem RVal.mk {v : Value} {own : List (Addr × Obj)} : RVal v v own := rfl

theorem RInt.use {f : Addr} {d u : Nat} {vs : List Value} {x : Int} (C : Calls f d u vs [] (RInt x)) {w : World} {mean : ExcName → Option Value} {mg mb : Str → Option Value} {dp un : Nat} {gd : Option (List Code)} {cn : Str} {cs : Scope} {a : Addr} {ccd : Value} {cl : List (Str × Addr)} {outer : List Env} {A₀ : Around} {base h₀ : Heap} {L : Addr} {m : Str → Option Value} {s : Shared} {Q E : Value → Shared → Prop} {news : List (Addr × Obj)}
    (B : Below A₀ base outer h₀) (F : Fr h₀ L s.heap m) (X : (KF w.params).In h₀) (N : News h₀ L s.heap news) (T : Top hd.view_39 LL mean mg mb h₀) (hk : cs.kind = .function) (hdp : dp + d < recursionLimit) (hun : un + u < cLine)
    (ret : ∀ (t : Tok) (h' : Heap) (tk' : Nat), Fr h₀ L h' m → News h₀ L h' news → Q (.int x t) { s with heap := h', toks := tk' }) : wpAny (model PG w) (ktrTop dp un gd cn cs L a ccd cl outer) (call (.ref f) vs) Q E s :=
  C.use0 B F X N T hk hdp hun fun _ _ h' tk' F' N' _ ⟨t, e⟩ => e ▸ ret t h' tk' F' (News.right N')
theorem RStr.use {f : Addr} {d u : Nat} {vs : List Value} {x : Str} (C : Calls f d u vs [] (RStr x)) {w : World} {mean : ExcName → Option Value} {mg mb : Str → Option Value} {dp un : Nat} {gd : Option (List Code)} {cn : Str} {cs : Scope} {a : Addr} {ccd : Value} {cl : List (Str × Addr)} {outer : List Env} {A₀ : Around} {base h₀ : Heap} {L : Addr} {m : Str → Option Value} {s : Shared} {Q E : Value → Shared → Prop} {news : List (Addr × Obj)}
    (B : Below A₀ base outer h₀) (F : Fr h₀ L s.heap m) (X : (KF w.params).In h₀) (N : News h₀ L s.heap news) (T : Top hd.view_39 LL mean mg mb h₀) (hk : cs.kind = .function) (hdp : dp + d < recursionLimit) (hun : un + u < cLine)
    (ret : ∀ (t : Tok) (h' : Heap) (tk' : Nat), Fr h₀ L h' m → News h₀ L h' news → Q (.str x t) { s with heap := h', toks := tk' }) : wpAny (model PG w) (ktrTop dp un gd cn cs L a ccd cl outer) (call (.ref f) vs) Q E s :=
  C.use0 B F X N T hk hdp hun fun _ _ h' tk' F' N' _ ⟨t, e⟩ => e ▸ ret t h' tk' F' (News.right N')
theorem RVal.use {f : Addr} {d u : Nat} {vs : List Value} {v : Value} (C : Calls f d u vs [] (RVal v)) {w : World} {mean : ExcName → Option Value} {mg mb : Str → Option Value} {dp un : Nat} {gd : Option (List Code)} {cn : Str} {cs : Scope} {a : Addr} {ccd : Value} {cl : List (Str × Addr)} {outer : List Env} {A₀ : Around} {base h₀ : Heap} {L : Addr} {m : Str → Option Value} {s : Shared} {Q E : Value → Shared → Prop} {news : List (Addr × Obj)}
    (B : Below A₀ base outer h₀) (F : Fr h₀ L s.heap m) (X : (KF w.params).In h₀) (N : News h₀ L s.heap news) (T : Top hd.view_39 LL mean mg mb h₀) (hk : cs.kind = .function) (hdp : dp + d < recursionLimit) (hun : un + u < cLine)
    (ret : ∀ (h' : Heap) (tk' : Nat), Fr h₀ L h' m → News h₀ L h' news → Q v { s with heap := h', toks := tk' }) : wpAny (model PG w) (ktrTop dp un gd cn cs L a ccd cl outer) (call (.ref f) vs) Q E s :=
  C.use0 B F X N T hk hdp hun fun _ _ h' tk' F' N' _ e => e ▸ ret h' tk' F' (News.right N')
theorem room {a d d' R : Nat} (h : a + d < R) (e : Nat.ble (d' + 1) d = true) : a + 1 + d' < R := by have := Nat.le_of_ble_eq_true e; omega
theorem roomU {a d d' R : Nat} (h : a + d < R) (e : Nat.ble (d' + 3) d = true) : a + 3 + d' < R := by have := Nat.le_of_ble_eq_true e; omega
theorem room0 {a d R : Nat} (h : a + d < R) : a < R := Nat.lt_of_le_of_lt (Nat.le_add_right a d) h
theorem LeaveO.intro {g h' : Heap} {s : Shared} {R : Value → List (Addr × Obj) → Prop} {v : Value} {L' : Addr} {m' : Str → Option Value} {own' : List (Addr × Obj)} {tk : Nat} (F : Fr g L' h' m') (N : News g L' h' own') (r : R v own') : LeaveO g s R v { s with heap := h', toks := tk } := ⟨L', m', own', F, N, ⟨_, _, rfl⟩, r⟩
end Mine
end
local macro_rules | `(tactic| walk_at "c_ud") => `(tactic| ((try simp only [depth_under_make, depth_under_kw, depth_in1, depth_deeper, depth_caller, units_in1, units_deeper, Around.mark_units, units_caller]); decide))
set_option hygiene false in
local macro_rules | `(tactic| walk_at "c_u0") => `(tactic| ((case k1 | k2 | k3 | k4 | k5 => k_asm); (case kK => first | exact rfl | assumption); (case kd => first | (refine' room ?h1 ?h2; (case h1 => assumption); (case h2 => exact rfl)) | walk_at "c_ud"); (case ku => first | (refine' roomU ?h1 ?h2; (case h1 => assumption); (case h2 => exact rfl)) | walk_at "c_ud")))
local macro_rules | `(tactic| walk_at "c_gI") => `(tactic| (intros; (try dsimp only); (try k_fold); (try k_sweep)))
set_option hygiene false in
local macro_rules | `(tactic| walk_at "c_uP") => `(tactic| ((case ks => (repeat (first | exact Splits.nil | exact Splits.app | apply Splits.cons))); (case ko => (repeat (first | exact trivial | assumption | (refine ⟨⟨by first | assumption | k_ne, by first | assumption | k_ne⟩, ?_⟩))))))
local macro_rules | `(tactic| walk_at "c_gD") => `(tactic| (intros; (rename News _ _ _ _ => N9); (try dsimp only [List.cons_append, List.nil_append] at N9); (try dsimp only); (try k_fold); (try k_sweep)))
set_option hygiene false in
local macro_rules | `(tactic| o_head $t) => `(tactic| (k_here; k_dflt ((refine' $t ?k1 ?k2 ?k3 ?k4 ?k5 ?kK ?kd ?ku ?_); walk_at "c_u0")))
set_option hygiene false in
local macro_rules | `(tactic| o_head ($t, ())) => `(tactic| (k_here; k_dflt ((refine' $t ?k1 ?k2 ?k3 ?k4 ?k5 ?kK ?kd ?ku ?ks ?ko ?_); walk_at "c_u0"; walk_at "c_uP")))
namespace Mine
set_option maxRecDepth 100000
open PySem.Spec PySem.Calls LCg LCt
section
variable {prog : Program} {w : World} {A : Around} {E : Value → Shared → Prop} {s : Shared} {h₀ : Heap} {L : Addr} {m : Str → Option Value} {env : Env}
theorem CompEnd_mono {s₁ : Shared} {I : Addr} {oI : Obj} {C : Addr} {oC : Obj} {D : Addr} {oD : Obj} {S : List (Addr × Obj) → Prop} {rest rest' : Value → List (Addr × Obj) → Prop} {y : Value} {s₂ : Shared}
    (h : CompEnd h₀ L m s₁ I oI C oC D oD S rest y s₂) (k : ∀ nw, rest y nw → rest' y nw) : CompEnd h₀ L m s₁ I oI C oC D oD S rest' y s₂ := by
  obtain ⟨a, b, c, d, e, f, g, i, j⟩ := h
  exact ⟨a, b, c, d, e, f, g, i, k _ j⟩
theorem restT_inv {ct elt : Expr} {x : Str} {scope : Scope} {cl : List (Str × Addr)} {s : Shared} {S : List (Addr × Obj) → Prop} {P : Nat → Value → Prop} {Fin : List Value → List (Addr × Obj) → Prop} {n : Nat} (J : Nat → List Value → List (Addr × Obj) → Prop)
    (fin : ∀ ys nw, J n ys nw → Fin ys nw)
    (turn : ∀ i ys nw, i < n → J i ys nw → ∀ v I oI C oC D m₂ h tk (E' : Value → Shared → Prop), P i v → NsObj oC m₂ → m₂ x = some v → Fr h₀ L h m → News h₀ L h ((I, oI) :: (C, oC) :: (D, lst ys) :: nw) → Off3 I C D nw → ((@Ne Nat I C) ∧ (@Ne Nat I D) ∧ (@Ne Nat C D)) →
      wpAny (model prog w) A (isTrue ct (compEnvC scope cl C env) (eval ct (compEnvC scope cl C env))) (fun ok s' => if ok = true then
        wpAny (model prog w) A (eval elt (compEnvC scope cl C env)) (CompEnd h₀ L m { s with heap := h, toks := tk } I oI C oC D (lst ys) S (fun y nw' => J (i + 1) (ys ++ [y]) nw')) E' s'
        else CompEnd h₀ L m { s with heap := h, toks := tk } I oI C oC D (lst ys) S (fun _ nw' => J (i + 1) ys nw') Value.none s') E' { s with heap := h, toks := tk }) :
    ∀ k i ys nw, i + k = n → J i ys nw → CompRestT prog w A h₀ L m env ct elt x scope cl s S P Fin k i ys nw
  | 0, i, ys, nw, e, hJ => CompRestT.zero (fin _ _ (by rw [show n = i by omega]; exact hJ))
  | k + 1, i, ys, nw, e, hJ => by
    refine CompRestT.succ ?_
    intro v I oI C oC D m₂ h tk E' hP hC hx F N off ne
    refine wpAny_mono (turn i ys nw (by omega) hJ v I oI C oC D m₂ h tk E' hP hC hx F N off ne) (fun ok s' hs' => ?_) fun _ _ e => e
    cases ok with
    | true =>
      simp only [if_true] at hs' ⊢
      exact wpAny_mono hs' (fun y s₂ h₂ => CompEnd_mono h₂ fun nw' hn => restT_inv J fin turn k (i + 1) (ys ++ [y]) nw' (by omega) hn) fun _ _ e => e
    | false =>
      simp only [Bool.false_eq_true, if_false] at hs' ⊢
      exact CompEnd_mono hs' fun nw' hn => restT_inv J fin turn k (i + 1) ys nw' (by omega) hn
theorem rest_inv {elt : Expr} {x : Str} {scope : Scope} {cl : List (Str × Addr)} {s : Shared} {S : List (Addr × Obj) → Prop} {P : Nat → Value → Prop} {Fin : List Value → List (Addr × Obj) → Prop} {n : Nat} (J : Nat → List Value → List (Addr × Obj) → Prop)
    (fin : ∀ ys nw, J n ys nw → Fin ys nw)
    (turn : ∀ i ys nw, i < n → J i ys nw → ∀ v I oI C oC D m₂ h tk (E' : Value → Shared → Prop), P i v → NsObj oC m₂ → m₂ x = some v → Fr h₀ L h m → News h₀ L h ((I, oI) :: (C, oC) :: (D, lst ys) :: nw) → Off3 I C D nw → ((@Ne Nat I C) ∧ (@Ne Nat I D) ∧ (@Ne Nat C D)) →
      wpAny (model prog w) A (eval elt (compEnvC scope cl C env)) (CompEnd h₀ L m { s with heap := h, toks := tk } I oI C oC D (lst ys) S (fun y nw' => J (i + 1) (ys ++ [y]) nw')) E' { s with heap := h, toks := tk }) :
    ∀ k i ys nw, i + k = n → J i ys nw → CompRest prog w A h₀ L m env elt x scope cl s S P Fin k i ys nw
  | 0, i, ys, nw, e, hJ => CompRest.zero (fin _ _ (by rw [show n = i by omega]; exact hJ))
  | k + 1, i, ys, nw, e, hJ => by
    refine CompRest.succ ?_
    intro v I oI C oC D m₂ h tk E' hP hC hx F N off ne
    refine wpAny_mono (turn i ys nw (by omega) hJ v I oI C oC D m₂ h tk E' hP hC hx F N off ne) (fun y s₂ h₂ => CompEnd_mono h₂ fun nw' hn => rest_inv J fin turn k (i + 1) (ys ++ [y]) nw' (by omega) hn) fun _ _ e => e

/-- a text is the source -/
noncomputable def SrcTS (prog : Program) (w : World) (A : Around) (h₀ : Heap) (L : Addr) (m : Str → Option Value) (env : Env) (ct elt : Expr) (x : Str) (scope : Scope) (cl : List (Str × Addr)) (Fin : Shared → List Value → List (Addr × Obj) → Prop) (xv : Value) (s₁ : Shared) : Prop :=
  ∃ a t news, xv = .str a t ∧ A.handled = none ∧ Fr h₀ L s₁.heap m ∧ News h₀ L s₁.heap news ∧ a.cps.size ≤ sizeLine ∧
    ∀ s₂ : Shared, (∃ h, s₂ = { s₁ with heap := h }) → CompRestT prog w A h₀ L m env ct elt x scope cl s₂ (fun _ => True) (SignAt a) (Fin s₂) a.cps.size 0 [] news
theorem SrcTS.mk {ct elt : Expr} {x : Str} {scope : Scope} {cl : List (Str × Addr)} {Fin : Shared → List Value → List (Addr × Obj) → Prop} {a : Str} {t : Tok} {news : List (Addr × Obj)} {s₁ : Shared}
    (hh : A.handled = none) (F : Fr h₀ L s₁.heap m) (N : News h₀ L s₁.heap news) (hsz : a.cps.size ≤ sizeLine)
    (h : ∀ g, CompRestT prog w A h₀ L m env ct elt x scope cl { s₁ with heap := g } (fun _ => True) (SignAt a) (Fin { s₁ with heap := g }) a.cps.size 0 [] news) :
    SrcTS prog w A h₀ L m env ct elt x scope cl Fin (.str a t) s₁ := ⟨a, t, news, rfl, hh, F, N, hsz, fun _ ⟨g, e⟩ => e ▸ h g⟩
noncomputable def SrcS (prog : Program) (w : World) (A : Around) (h₀ : Heap) (L : Addr) (m : Str → Option Value) (env : Env) (elt : Expr) (x : Str) (scope : Scope) (cl : List (Str × Addr)) (Fin : Shared → List Value → List (Addr × Obj) → Prop) (xv : Value) (s₁ : Shared) : Prop :=
  ∃ a t news, xv = .str a t ∧ A.handled = none ∧ Fr h₀ L s₁.heap m ∧ News h₀ L s₁.heap news ∧ a.cps.size ≤ sizeLine ∧
    ∀ s₂ : Shared, (∃ h, s₂ = { s₁ with heap := h }) → CompRest prog w A h₀ L m env elt x scope cl s₂ (fun _ => True) (SignAt a) (Fin s₂) a.cps.size 0 [] news
theorem SrcS.mk {elt : Expr} {x : Str} {scope : Scope} {cl : List (Str × Addr)} {Fin : Shared → List Value → List (Addr × Obj) → Prop} {a : Str} {t : Tok} {news : List (Addr × Obj)} {s₁ : Shared}
    (hh : A.handled = none) (F : Fr h₀ L s₁.heap m) (N : News h₀ L s₁.heap news) (hsz : a.cps.size ≤ sizeLine)
    (h : ∀ g, CompRest prog w A h₀ L m env elt x scope cl { s₁ with heap := g } (fun _ => True) (SignAt a) (Fin { s₁ with heap := g }) a.cps.size 0 [] news) :
    SrcS prog w A h₀ L m env elt x scope cl Fin (.str a t) s₁ := ⟨a, t, news, rfl, hh, F, N, hsz, fun _ ⟨g, e⟩ => e ▸ h g⟩

theorem strWalks {A : Around} (hh : A.handled = none) {x : Str} {t : Tok} {Q : Value → Shared → Prop}
    (hQ : ∀ (o : Obj) (St : Nat → Heap → Prop), Walks prog w A s.heap.objs.size [s.heap.objs.size] [s.heap.objs.size] x.cps.size (SignAt x) St → (∀ i h, St i h → ∃ o, h.get? s.heap.objs.size = some o) → St 0 (s.heap.push o) →
      Q (.ref s.heap.objs.size) { s with heap := s.heap.push o }) : wpAny (model prog w) A (pyIter (.str x t)) Q E s := by
  cases ha : x.cps.all (· < 128)
  · exact wpAny_pyIter_wide ha (hQ _ _ (Walks.strWide hh _ x t) (fun i h st => by obtain ⟨o, e, _⟩ := st; exact ⟨o, e⟩) ⟨_, Heap.get?_push_size _ rfl, rfl, rfl⟩)
  · exact wpAny_pyIter_ascii ha (hQ _ _ (Walks.strAscii hh _ x t) (fun i h st => by obtain ⟨o, e, _⟩ := st; exact ⟨o, e⟩) ⟨_, Heap.get?_push_size _ rfl, rfl, rfl⟩)

theorem ListComp_TS {ct elt iter : Expr} {x : Str} {px : Pos} {scope : Scope} {cl : List (Str × Addr)} {pos : Pos} {Q : Value → Shared → Prop} (_F₀ : Fr h₀ L s.heap m)
    (hclos : closureFor scope env = pure cl) (hcell : ∀ y ∈ scope.names, y.2 ≠ .cell) (hkind : scope.kind = .function)
    (hnames : ∀ y ∈ scope.names, y.2 = .local → scope.names.lookup y.1 = some .local) (hx : scope.names.lookup x = some .local)
    (h : wpAny (model prog w) A (eval iter env) (SrcTS prog w A h₀ L m env ct elt x scope cl (fun s₂ => FinE h₀ L m s₂ Q)) E s)
    (hs : ∀ x, foldedSetIterable iter env x = pure x := by intro _; rfl) :
    wpAny (model prog w) A (eval (.ListComp elt [⟨.Name x px, iter, [ct], 0⟩] scope pos) env) Q E s := by
  rw [eval_ListComp]
  refine wpAny_comprehension_free (use := none) rfl hs hclos hkind hnames (wpAny_mono h (fun xv s₁ h₁ => ?_) fun _ _ e => e)
  obtain ⟨a, t, news, rfl, hh, F, N, hsz, R⟩ := h₁
  refine strWalks hh fun o St W hIo hst => ?_
  have up : ∀ b ob, s₁.heap.get? b = some ob → (s₁.heap.push o).get? b = some ob := fun b o e => Heap.get?_push_of_some _ e
  refine block_T W hsz hIo (fun i h h' o nw st e e' _ _ _ => W.frame i h h' st fun b hb ob eb => by rw [List.mem_singleton.mp hb] at eb ⊢; rw [e] at eb; rw [e']; exact eb) hcell hkind hx hst (fun b hb => ?_)
    (F.keeps up) (N.grown up) (Nat.ne_of_lt F.ns.lt) (next_is_new F) (fun p hp => Nat.ne_of_lt (Heap.lt_size (N p hp).1)) trivial (R _ ⟨_, rfl⟩) ?_
  · rw [List.mem_singleton.mp hb]
    show s₁.heap.objs.size < (s₁.heap.push _).objs.size
    rw [Heap.size_push]; exact Nat.lt_succ_self _
  · intro D C h tk m' ys news' F' N' o1 hn hC₀ hD₀ hCL hDL hCD offC fin
    refine ⟨m', hn, fun h'' hs'' => fin D h'' tk (F'.change hs'' hCL hC₀) (fun p hp => ?_) o1⟩
    refine ⟨hs''.extBut _ _ ?_ (N' p hp).1, (N' p hp).2⟩
    rcases List.mem_cons.mp hp with rfl | hp
    · exact Ne.symm hCD
    · exact offC p hp
theorem ListComp_S {elt iter : Expr} {x : Str} {px : Pos} {scope : Scope} {cl : List (Str × Addr)} {pos : Pos} {Q : Value → Shared → Prop} (_F₀ : Fr h₀ L s.heap m)
    (hclos : closureFor scope env = pure cl) (hcell : ∀ y ∈ scope.names, y.2 ≠ .cell) (hkind : scope.kind = .function)
    (hnames : ∀ y ∈ scope.names, y.2 = .local → scope.names.lookup y.1 = some .local) (hx : scope.names.lookup x = some .local)
    (h : wpAny (model prog w) A (eval iter env) (SrcS prog w A h₀ L m env elt x scope cl (fun s₂ => FinE h₀ L m s₂ Q)) E s)
    (hs : ∀ x, foldedSetIterable iter env x = pure x := by intro _; rfl) :
    wpAny (model prog w) A (eval (.ListComp elt [⟨.Name x px, iter, [], 0⟩] scope pos) env) Q E s := by
  rw [eval_ListComp]
  refine wpAny_comprehension_free (use := none) rfl hs hclos hkind hnames (wpAny_mono h (fun xv s₁ h₁ => ?_) fun _ _ e => e)
  obtain ⟨a, t, news, rfl, hh, F, N, hsz, R⟩ := h₁
  refine strWalks hh fun o St W hIo hst => ?_
  have up : ∀ b ob, s₁.heap.get? b = some ob → (s₁.heap.push o).get? b = some ob := fun b o e => Heap.get?_push_of_some _ e
  refine block_U W hsz hIo (fun i h h' o nw st e e' _ _ _ => W.frame i h h' st fun b hb ob eb => by rw [List.mem_singleton.mp hb] at eb ⊢; rw [e] at eb; rw [e']; exact eb) hcell hkind hx hst (fun b hb => ?_)
    (F.keeps up) (N.grown up) (Nat.ne_of_lt F.ns.lt) (next_is_new F) (fun p hp => Nat.ne_of_lt (Heap.lt_size (N p hp).1)) trivial (R _ ⟨_, rfl⟩) ?_
  · rw [List.mem_singleton.mp hb]
    show s₁.heap.objs.size < (s₁.heap.push _).objs.size
    rw [Heap.size_push]; exact Nat.lt_succ_self _
  · intro D C h tk m' ys news' F' N' o1 hn hC₀ hD₀ hCL hDL hCD offC fin
    refine ⟨m', hn, fun h'' hs'' => fin D h'' tk (F'.change hs'' hCL hC₀) (fun p hp => ?_) o1⟩
    refine ⟨hs''.extBut _ _ ?_ (N' p hp).1, (N' p hp).2⟩
    rcases List.mem_cons.mp hp with rfl | hp
    · exact Ne.symm hCD
    · exact offC p hp
end
end Mine
namespace Mine
set_option maxRecDepth 100000
open PySem.Spec PySem.Calls LCg LCt
section
variable {prog : Program} {w : World} {A : Around} {E : Value → Shared → Prop} {s : Shared} {h₀ : Heap} {L : Addr} {m : Str → Option Value} {env : Env}
/-- the end of a turn: the ledger of what is told, apart from the iterator's own -/
noncomputable def PEnd (h₀ : Heap) (L : Addr) (m : Str → Option Value) (s₁ : Shared) (C : Addr) (oC : Obj) (D : Addr) (oD : Obj) (own : List (Addr × Obj)) (fp : List Addr) (rest : Value → List (Addr × Obj) → Prop) (y : Value) (s₂ : Shared) : Prop :=
  ∃ h' tk nw, s₂ = { s₁ with heap := h', toks := tk } ∧ Fr h₀ L h' m ∧ News h₀ L h' ((C, oC) :: (D, oD) :: (nw ++ own)) ∧ (∀ p ∈ nw, p.1 ≠ C ∧ p.1 ≠ D ∧ p.1 ∉ fp) ∧ rest y nw

/-- what is asked of one turn -/
noncomputable def PTurn (prog : Program) (w : World) (A : Around) (h₀ : Heap) (L : Addr) (m : Str → Option Value) (env : Env) (ct elt : Expr) (a b : Str) (scope : Scope) (cl : List (Str × Addr)) (s : Shared) (fp : List Addr) (n : Nat) (Pt : Nat → Array Value → Prop) (J : Nat → List Value → List (Addr × Obj) → Prop) : Prop :=
  ∀ i ys nw x y C oC D m₂ h tk own (E' : Value → Shared → Prop), i < n → Pt i #[x, y] → J i ys nw → NsObj oC m₂ → m₂ a = some x → m₂ b = some y → Fr h₀ L h m → News h₀ L h ((C, oC) :: (D, lst ys) :: (nw ++ own)) → C ≠ D →
    (∀ p ∈ nw, p.1 ≠ C ∧ p.1 ≠ D ∧ p.1 ∉ fp) → (∀ p ∈ own, p.1 ∈ fp) → C ∉ fp → D ∉ fp →
    wpAny (model prog w) A (isTrue ct (compEnvC scope cl C env) (eval ct (compEnvC scope cl C env))) (fun ok s' => if ok = true then
      wpAny (model prog w) A (eval elt (compEnvC scope cl C env)) (PEnd h₀ L m { s with heap := h, toks := tk } C oC D (lst ys) own fp (fun v nw' => J (i + 1) (ys ++ [v]) nw')) E' s'
      else PEnd h₀ L m { s with heap := h, toks := tk } C oC D (lst ys) own fp (fun _ nw' => J (i + 1) ys nw') Value.none s') E' { s with heap := h, toks := tk }

/-- ahead of a turn -/
inductive PTI (h₀ : Heap) (L : Addr) (m : Str → Option Value) (n : Nat) (C D : Addr) (fp : List Addr) (St : Nat → Heap → Prop) (J : Nat → List Value → List (Addr × Obj) → Prop) (s₂ : Shared) (k : Nat) (s' : Shared) : Prop
  | mk (h' : Heap) (tk i : Nat) (ys : List Value) (m' : Str → Option Value) (nw : List (Addr × Obj)) (e : s' = { s₂ with heap := h', toks := tk }) (hi : i ≤ n) (hk : k = n + 1 - i) (hy : ys.length ≤ i) (hst : St i h') (F : Fr h₀ L h' m) (hn : h'.Ns C m')
      (N : News h₀ L h' ((D, lst ys) :: nw)) (off : ∀ p ∈ nw, p.1 ≠ C ∧ p.1 ≠ D ∧ p.1 ∉ fp) (hJ : J i ys nw)

theorem blockPT {elt iter ct : Expr} {a b : Str} {pa pb tp : Pos} {kk : Nat} {scope : Scope} {cl : List (Str × Addr)} {pos : Pos} {s₂ : Shared} {I : Addr} {fp wr : List Addr} {n : Nat} {Pt : Nat → Array Value → Prop} {St : Nat → Heap → Prop} {Mid : Nat → Addr → Heap → Prop}
    {nw₀ : List (Addr × Obj)} {RR : Value → Addr → Result → Shared → Prop} {J : Nat → List Value → List (Addr × Obj) → Prop}
    (W : WalksU prog w A I fp wr n Pt St Mid) (hpt : ∀ i vals, Pt i vals → ∃ x y, vals = #[x, y]) (hh : A.handled = none) (hsz : n ≤ sizeLine)
    (hcell : ∀ y ∈ scope.names, y.2 ≠ .cell) (hkind : scope.kind = .function) (hxa : scope.names.lookup a = some .local) (hxb : scope.names.lookup b = some .local) (hab : ¬ a = b)
    (hst : St 0 s₂.heap) (hfp : ∀ c ∈ fp, c < s₂.heap.objs.size) (hwr : ∀ c ∈ wr, h₀.get? c = none) (hLf : L ∉ fp)
    (F : Fr h₀ L s₂.heap m) (N : News h₀ L s₂.heap nw₀) (off : ∀ p ∈ nw₀, p.1 ∉ fp) (h0 : J 0 [] nw₀)
    (turn : PTurn prog w A h₀ L m env ct elt a b scope cl s₂ fp n Pt J)
    (hRR : ∀ D C h tk m' ys nw, Fr h₀ L h m → News h₀ L h ((D, lst ys) :: nw) → h.Ns C m' → h₀.get? C = none → C ≠ L → C ≠ D → (∀ p ∈ nw, p.1 ≠ C ∧ p.1 ≠ D) → J n ys nw → RR (.ref D) C (.ok .next) { s₂ with heap := h, toks := tk }) :
    wpAny (model prog w) A (newList []) (fun acc s₃ => wpAny (model prog w) A (newFunctionEnv scope env.globals cl [] env.qual none .none (some env)) (fun cenv s₄ =>
      codeAny (model prog w) A (.compStart (.ListComp elt [⟨.Tuple [.Name a pa, .Name b pb] kk tp, iter, [ct], 0⟩] scope pos) 0 (.ref I) acc { cenv with scope := relabel scope env }) (RR acc cenv.locals) s₄) E s₃) E s₂ := by
  refine wpAny_newObj_type (wpAny_newFunctionEnv hcell (by intro y hy; simp at hy) (fun h₁ hns₁ hsb₁ => ?_) hkind)
  dsimp only at hns₁ hsb₁ ⊢
  generalize hH2 : s₂.heap.push { cls := .type "list", dict := none, data := .seq ([] : List Value).toArray } = H2 at hns₁ hsb₁ ⊢
  have hC : H2.objs.size = s₂.heap.objs.size + 1 := by rw [← hH2, Heap.size_push]
  generalize hDe : s₂.heap.objs.size = D at hC ⊢
  generalize hCe : H2.objs.size = C at hC hns₁ hsb₁ ⊢
  have hCD : C ≠ D := by rw [hC]; exact Nat.succ_ne_self _
  have small : ∀ c, c < s₂.heap.objs.size → c ≠ C ∧ c ≠ D := fun c hc => by
    rw [hDe] at hc
    exact ⟨Nat.ne_of_lt (by rw [hC]; exact Nat.lt_succ_of_lt hc), Nat.ne_of_lt hc⟩
  have hCf : C ∉ fp := fun q => (small _ (hfp _ q)).1 rfl
  have hDf : D ∉ fp := fun q => (small _ (hfp _ q)).2 rfl
  have old : ∀ c o, s₂.heap.get? c = some o → h₁.get? c = some o := fun c o e => hsb₁.extBut c o (small c (Heap.lt_size e)).1 (Heap.get?_push_of_some _ (hH2 ▸ Heap.get?_push_of_some _ e))
  have hacc : h₁.get? D = some (lst []) := hsb₁.extBut _ _ (Ne.symm hCD) (Heap.get?_push_of_some _ (hH2 ▸ hDe ▸ Heap.get?_push_size _ rfl))
  have fresh₀ : ∀ c, D ≤ c → h₀.get? c = none := fun c hc => by
    cases e : h₀.get? c with
    | none => rfl
    | some o => have := Heap.lt_size (F.keep c o e); rw [hDe] at this; exact absurd this (Nat.not_lt.mpr hc)
  have hD₀ := fresh₀ D (Nat.le_refl _)
  have hC₀ := fresh₀ C (by rw [hC]; exact Nat.le_succ _)
  have hLs := small L F.ns.lt
  have hst₁ : St 0 h₁ := W.frame _ _ _ hst fun c _ o e => old c o e
  have hLw : L ∉ wr := fun q => hLf (W.sub _ q)
  have wr₀ : ∀ c o, h₀.get? c = some o → c ∉ wr := fun c o e q => by rw [hwr c q] at e; cases e
  have loop : ∀ s₃ : Shared, s₃ = { s₂ with heap := h₁, toks := s₂.toks + ([] : List (Str × Value)).length } →
      codeAny (model prog w) A (.compLoop (.ListComp elt [⟨.Tuple [.Name a pa, .Name b pb] kk tp, iter, [ct], 0⟩] scope pos) 0 (.ref I) (.ref D) (compEnvC scope cl C env)) (RR (.ref D) C) s₃ := by
    rintro s₃ rfl
    refine kct_loop
      (PTI h₀ L m n C D fp St J s₂) ?_ (n + 1)
      ⟨h₁, _, 0, [], _, nw₀, rfl, Nat.zero_le _, rfl, Nat.le_refl _, hst₁, F.keeps old, hns₁, fun p hp => ?_, fun p hp => ⟨(small _ (Heap.lt_size (N p hp).1)).1, (small _ (Heap.lt_size (N p hp).1)).2, off p hp⟩, h0⟩
    · rintro k s' ⟨h', tk, i, ys, m', nw, rfl, hi, rfl, hyl, hst', F', hn', N', off', hJ⟩
      by_cases hlt : i < n
      · refine W.item i _ _ _ hlt hst' fun T vals h₂ tk₂ hPv hT hMd hk₂ => ?_
        refine W.go _ _ _ i T _ _ _ hMd fun h₃ hst₃ hk₃ => ?_
        obtain ⟨x, y, rfl⟩ := hpt i vals hPv
        have hT₃ : h₃.IsTuple T #[x, y] := hT.at fun o e => hk₃ T o (W.apart i T _ hMd) e
        have up₃ : ∀ c o, c ∉ wr → h'.get? c = some o → h₃.get? c = some o := fun c o hc e => hk₃ c o hc (hk₂ c o hc e)
        refine kcp_assign (env := compEnvC scope cl C env) hh hT₃ (lookup_relabel_local hxa) (lookup_relabel_local hxb) (by simp [compEnvC, relabel, hkind]) (hn'.at' fun o e => up₃ _ o (fun q => hCf (W.sub _ q)) e) fun h₄ tk₄ hn₄ hs₄ => ?_
        have up : ∀ c o, c ∉ wr → c ≠ C → h'.get? c = some o → h₄.get? c = some o := fun c o h1 h2 e => hs₄ c o h2 (up₃ c o h1 e)
        have hst₄ : St (i + 1) h₄ := W.frame _ _ _ hst₃ fun c hc o e => hs₄ c o (fun q => hCf (by have q' : c = C := q; exact q' ▸ hc)) e
        obtain ⟨oC, heC, hoC⟩ := ns_obj hn₄
        have F₄ : Fr h₀ L h₄ m := ⟨F'.ns.at' fun o e => up _ o hLw hLs.1 e, fun c o e => up c o (wr₀ c o e) (fun q => by rw [q, hC₀] at e; cases e) (F'.keep c o e), F'.above⟩
        have Nown : News h₀ L h₄ (ownOf h₀ fp h₄) := news_ownOf hLf
        have N₄ : News h₀ L h₄ ((C, oC) :: (D, lst ys) :: (nw ++ ownOf h₀ fp h₄)) := fun p hp => by
          rcases List.mem_cons.mp hp with rfl | hp
          · exact ⟨heC, Ne.symm hLs.1, hC₀⟩
          rcases List.mem_cons.mp hp with rfl | hp
          · have z := N' (D, lst ys) List.mem_cons_self
            exact ⟨up _ _ (fun q => hDf (W.sub _ q)) (Ne.symm hCD) z.1, z.2⟩
          rcases List.mem_append.mp hp with hp | hp
          · have z := N' p (List.mem_cons_of_mem _ hp)
            have o := off' p hp
            exact ⟨up _ _ (fun q => o.2.2 (W.sub _ q)) o.1 z.1, z.2⟩
          · exact Nown p hp
        have fin : ∀ (ys' : List Value) (h₅ : Heap) (tk₅ : Nat) (nw₅ : List (Addr × Obj)), ys'.length ≤ i + 1 → Fr h₀ L h₅ m → News h₀ L h₅ ((C, oC) :: (D, lst ys') :: (nw₅ ++ ownOf h₀ fp h₄)) → (∀ p ∈ nw₅, p.1 ≠ C ∧ p.1 ≠ D ∧ p.1 ∉ fp) → J (i + 1) ys' nw₅ →
            ∃ q', q' < n + 1 - i ∧ PTI h₀ L m n C D fp St J s₂ q' { s₂ with heap := h₅, toks := tk₅ } := by
          intro ys' h₅ tk₅ nw₅ hl F₅ N₅ off₅ J₅
          have zC := (N₅ (C, oC) List.mem_cons_self).1
          refine ⟨n + 1 - (i + 1), by omega, h₅, tk₅, i + 1, ys', _, nw₅, rfl, hlt, rfl, hl, ?_, F₅, hoC.ns zC, fun p hp => ?_, off₅, J₅⟩
          · refine W.frame _ _ _ hst₄ fun c hc o e => ?_
            cases e0 : h₀.get? c with
            | none => exact (N₅ (c, o) (List.mem_cons_of_mem _ (List.mem_cons_of_mem _ (List.mem_append_right _ (mem_ownOf hc e0 e))))).1
            | some o' => have := F₄.keep c o' e0; rw [e] at this; cases this; exact F₅.keep c _ e0
          · rcases List.mem_cons.mp hp with rfl | hp
            · exact N₅ _ (List.mem_cons_of_mem _ List.mem_cons_self)
            · exact N₅ p (List.mem_cons_of_mem _ (List.mem_cons_of_mem _ (List.mem_append_left _ hp)))
        refine wpAny_mono (turn i ys nw x y C oC D _ h₄ _ (ownOf h₀ fp h₄) _ hlt hPv hJ hoC (by simp [hab]) (by simp) F₄ N₄ hCD off' ownOf_sub hCf hDf) (fun okb s₅ h₅ => ?_) fun _ _ e => e
        cases okb with
        | false =>
          simp only [Bool.false_eq_true, if_false] at h₅ ⊢
          obtain ⟨h₅, tk₅, nw₅, rfl, F₅, N₅, off₅, J₅⟩ := h₅
          exact fin ys h₅ tk₅ nw₅ (Nat.le_succ_of_le hyl) F₅ N₅ off₅ J₅
        | true =>
          simp only [if_true] at h₅ ⊢
          refine wpAny_mono h₅ (fun v s₆ h₆ => ?_) fun _ _ e => e
          obtain ⟨h₅, tk₅, nw₅, rfl, F₅, N₅, off₅, J₅⟩ := h₆
          have zC := N₅ (C, oC) List.mem_cons_self
          have zD := N₅ (D, lst ys) (List.mem_cons_of_mem _ List.mem_cons_self)
          refine append_at (hsz := by show ys.toArray.size ≤ sizeLine; rw [List.size_toArray]; exact Nat.le_trans hyl (Nat.le_trans hi hsz)) zD.1 fun h₆ hs₆ hD₆ => ?_
          refine fin (ys ++ [v]) h₆ _ nw₅ (by rw [List.length_append, List.length_singleton]; exact Nat.succ_le_succ hyl) (F₅.change hs₆ (Ne.symm hLs.2) hD₀) (fun p hp => ?_) off₅ J₅
          rcases List.mem_cons.mp hp with rfl | hp
          · exact ⟨hs₆.extBut _ oC hCD zC.1, zC.2⟩
          rcases List.mem_cons.mp hp with rfl | hp
          · exact ⟨hD₆.trans (congrArg some (lst_snoc ys v)), zD.2⟩
          have hpD : p.1 ≠ D := by
            rcases List.mem_append.mp hp with hp | hp
            · exact (off₅ p hp).2.1
            · exact fun q => hDf (q ▸ ownOf_sub p hp)
          have z := N₅ p (List.mem_cons_of_mem _ (List.mem_cons_of_mem _ hp))
          exact ⟨hs₆.extBut _ _ hpD z.1, z.2⟩
      · obtain rfl : i = n := Nat.le_antisymm hi (Nat.not_lt.mp hlt)
        refine W.done _ _ _ hst' fun h₂ tk₂ hk₂ => ?_
        refine hRR D C h₂ tk₂ _ ys nw ⟨F'.ns.at' fun o e => hk₂ _ o hLw e, fun c o e => hk₂ c o (wr₀ c o e) (F'.keep c o e), F'.above⟩ (fun p hp => ?_) (hn'.at' fun o e => hk₂ _ o (fun q => hCf (W.sub _ q)) e) hC₀ (Ne.symm hLs.1) hCD (fun p hp => ⟨(off' p hp).1, (off' p hp).2.1⟩) hJ
        have z := N' p hp
        refine ⟨hk₂ _ _ (fun q => ?_) z.1, z.2⟩
        rcases List.mem_cons.mp hp with rfl | hp
        · exact hDf (W.sub _ q)
        · exact (off' p hp).2.2 (W.sub _ q)
    · rcases List.mem_cons.mp hp with rfl | hp
      · exact ⟨hacc, Ne.symm hLs.2, hD₀⟩
      · exact ⟨old _ _ (N p hp).1, (N p hp).2⟩
  exact codeAny_compStart_list (loop _ rfl) (W.self 0 _ _ _ hst₁ (loop _ rfl))

/-- behind the iterator of a comprehension over pairs: what is asked of the turns, the end -/
inductive PTS (prog : Program) (w : World) (A : Around) (h₀ : Heap) (L : Addr) (m : Str → Option Value) (env : Env) (ct elt : Expr) (a b : Str) (scope : Scope) (cl : List (Str × Addr)) (Q : Value → Shared → Prop) (it : Value) (s₂ : Shared) : Prop
  | mk (I : Addr) (fp wr : List Addr) (n : Nat) (Pt : Nat → Array Value → Prop) (St : Nat → Heap → Prop) (Mid : Nat → Addr → Heap → Prop) (nw₀ : List (Addr × Obj)) (J : Nat → List Value → List (Addr × Obj) → Prop)
      (e : it = .ref I) (W : WalksU prog w A I fp wr n Pt St Mid) (hpt : ∀ i vals, Pt i vals → ∃ x y, vals = #[x, y]) (hh : A.handled = none) (hsz : n ≤ sizeLine) (hst : St 0 s₂.heap) (hfp : ∀ c ∈ fp, c < s₂.heap.objs.size)
      (hwr : ∀ c ∈ wr, h₀.get? c = none) (hLf : L ∉ fp) (F : Fr h₀ L s₂.heap m) (N : News h₀ L s₂.heap nw₀) (off : ∀ p ∈ nw₀, p.1 ∉ fp) (h0 : J 0 [] nw₀) (turn : PTurn prog w A h₀ L m env ct elt a b scope cl s₂ fp n Pt J)
      (fin : ∀ D h tk ys nw, Fr h₀ L h m → News h₀ L h ((D, lst ys) :: nw) → (∀ p ∈ nw, p.1 ≠ D) → J n ys nw → Q (.ref D) { s₂ with heap := h, toks := tk })
/-- the source of a comprehension over pairs -/
noncomputable def SrcPT (prog : Program) (w : World) (A : Around) (h₀ : Heap) (L : Addr) (m : Str → Option Value) (env : Env) (ct elt : Expr) (a b : Str) (scope : Scope) (cl : List (Str × Addr)) (Q : Value → Shared → Prop) (E : Value → Shared → Prop) (xv : Value) (s₁ : Shared) : Prop :=
  wpAny (model prog w) A (pyIter xv) (PTS prog w A h₀ L m env ct elt a b scope cl Q) E s₁

theorem ListComp_PT {ct elt iter : Expr} {a b : Str} {pa pb tp : Pos} {kk : Nat} {scope : Scope} {cl : List (Str × Addr)} {pos : Pos} {Q : Value → Shared → Prop} (_F₀ : Fr h₀ L s.heap m)
    (hclos : closureFor scope env = pure cl) (hcell : ∀ y ∈ scope.names, y.2 ≠ .cell) (hkind : scope.kind = .function)
    (hnames : ∀ y ∈ scope.names, y.2 = .local → scope.names.lookup y.1 = some .local) (hxa : scope.names.lookup a = some .local) (hxb : scope.names.lookup b = some .local) (hab : ¬ a = b)
    (h : wpAny (model prog w) A (eval iter env) (SrcPT prog w A h₀ L m env ct elt a b scope cl Q E) E s)
    (hs : ∀ x, foldedSetIterable iter env x = pure x := by intro _; rfl) :
    wpAny (model prog w) A (eval (.ListComp elt [⟨.Tuple [.Name a pa, .Name b pb] kk tp, iter, [ct], 0⟩] scope pos) env) Q E s := by
  rw [eval_ListComp]
  refine wpAny_comprehension_free (use := none) rfl hs hclos hkind hnames (wpAny_mono h (fun xv s₁ h₁ => ?_) fun _ _ e => e)
  refine wpAny_mono h₁ (fun it s₂ h₂ => ?_) fun _ _ e => e
  obtain ⟨I, fp, wr, n, Pt, St, Mid, nw₀, J, rfl, W, hpt, hh, hsz, hst, hfp, hwr, hLf, F, N, off, h0, turn, fin⟩ := h₂
  refine blockPT W hpt hh hsz hcell hkind hxa hxb hab hst hfp hwr hLf F N off h0 turn ?_
  intro D C h tk m' ys nw F' N' hn hC₀ hCL hCD offC hJ
  refine ⟨m', hn, fun h'' hs'' => fin D h'' tk ys nw (F'.change hs'' hCL hC₀) (fun p hp => ?_) (fun p hp => (offC p hp).2) hJ⟩
  refine ⟨hs''.extBut _ _ ?_ (N' p hp).1, (N' p hp).2⟩
  rcases List.mem_cons.mp hp with rfl | hp
  · exact Ne.symm hCD
  · exact (offC p hp).1
end
end Mine
namespace Mine
set_option maxRecDepth 100000
noncomputable def ev (c k : Nat) : Int := (c : Int) + 4194304 * (k : Int)
noncomputable def hcc (c : Nat) : Bool := (64 ≤ c && c ≤ 95) || (97 ≤ c && c ≤ 122)
structure VK (c k : Nat) : Prop where
  hc : c < 1114112
  hk : k < 64
  ok : k.testBit 4 = true → 32 ≤ c ∧ hcc c = false
theorem ev_mod {c k : Nat} (h : c < 1114112) : ev c k % 4194304 = (c : Int) := by unfold ev; omega
theorem ev_bits {c k : Nat} (h : c < 1114112) : ev c k - ev c k % 4194304 = 4194304 * (k : Int) := by unfold ev; omega
theorem ev_nonneg (c k : Nat) : 0 ≤ ev c k := by unfold ev; omega
theorem ev_lt {c k : Nat} (v : VK c k) : ev c k < 2 ^ 40 := by have := v.hc; have := v.hk; unfold ev; omega

theorem bor8 : ∀ k : Nat, k < 64 → Builtin.bitOr (4194304 * (k : Int)) 33554432 = 4194304 * ((k ||| 8 : Nat) : Int) ∧ (k ||| 8) < 64 ∧ (k ||| 8).testBit 4 = k.testBit 4 := by decide +kernel
theorem bor16 : ∀ k : Nat, k < 64 → Builtin.bitOr (4194304 * (k : Int)) 67108864 = 4194304 * ((k ||| 16 : Nat) : Int) ∧ (k ||| 16) < 64 := by decide +kernel
theorem bor1 : ∀ k : Nat, k < 64 → Builtin.bitOr (4194304 * (k : Int)) 4194304 = 4194304 * ((k ||| 1 : Nat) : Int) ∧ (k ||| 1) < 64 ∧ (k ||| 1).testBit 4 = k.testBit 4 := by decide +kernel
theorem bor2 : ∀ k : Nat, k < 64 → Builtin.bitOr (4194304 * (k : Int)) 8388608 = 4194304 * ((k ||| 2 : Nat) : Int) ∧ (k ||| 2) < 64 ∧ (k ||| 2).testBit 4 = k.testBit 4 := by decide +kernel
theorem bor4 : ∀ k : Nat, k < 64 → Builtin.bitOr (4194304 * (k : Int)) 16777216 = 4194304 * ((k ||| 4 : Nat) : Int) ∧ (k ||| 4) < 64 ∧ (k ||| 4).testBit 4 = k.testBit 4 := by decide +kernel
theorem bor32 : ∀ k : Nat, k < 64 → Builtin.bitOr (4194304 * (k : Int)) 134217728 = 4194304 * ((k ||| 32 : Nat) : Int) ∧ (k ||| 32) < 64 ∧ (k ||| 32).testBit 4 = k.testBit 4 := by decide +kernel
theorem band16 : ∀ k : Nat, k < 64 → Builtin.bitAnd (4194304 * (k : Int)) (Builtin.bitXor (4194304 * (k : Int)) 67108864) = 4194304 * ((k &&& (k ^^^ 16) : Nat) : Int) ∧ (k &&& (k ^^^ 16)) < 64 ∧ (k &&& (k ^^^ 16)).testBit 4 = false := by decide +kernel

theorem hcc_iff {c : Nat} : hcc c = true ↔ (64 ≤ (c : Int) ∧ (c : Int) ≤ 95 ∨ 97 ≤ (c : Int) ∧ (c : Int) ≤ 122) := by
  unfold hcc
  simp only [Bool.or_eq_true, Bool.and_eq_true, decide_eq_true_eq]
  omega

/-- an int key comes back -/
noncomputable def REv (r : Value) (_own' : List (Addr × Obj)) : Prop := ∃ c k t, r = .int (ev c k) t ∧ VK c k
theorem REv.mk {x : Int} {t : Tok} {own : List (Addr × Obj)} (h : ∃ c k, x = ev c k ∧ VK c k) : REv (.int x t) own := by
  obtain ⟨c, k, rfl, v⟩ := h
  exact ⟨c, k, t, rfl, v⟩
theorem wc_great {c k : Nat} (hc : c < 1114112) (hk : k < 64) : ∃ c' k', (ev c k % 4194304).fmod 32 + Builtin.bitAnd (Builtin.bitOr (ev c k - ev c k % 4194304) 33554432) (Builtin.bitXor (Builtin.bitOr (ev c k - ev c k % 4194304) 33554432) 67108864) = ev c' k' ∧ VK c' k' := by
  obtain ⟨e1, h1, _⟩ := bor8 k hk
  obtain ⟨e2, h2, t2⟩ := band16 _ h1
  rw [ev_bits hc, ev_mod hc, e1, e2, Int.fmod_eq_emod_of_nonneg _ (by decide)]
  exact ⟨c % 32, ((k ||| 8) &&& ((k ||| 8) ^^^ 16)), by unfold ev; omega, ⟨by omega, h2, by rw [t2]; exact fun h => by cases h⟩⟩
theorem wc_small {c k : Nat} (hc : c < 1114112) (hk : k < 64) : ∃ c' k', (ev c k % 4194304).fmod 32 + Builtin.bitAnd (ev c k - ev c k % 4194304) (Builtin.bitXor (ev c k - ev c k % 4194304) 67108864) = ev c' k' ∧ VK c' k' := by
  obtain ⟨e2, h2, t2⟩ := band16 _ hk
  rw [ev_bits hc, ev_mod hc, e2, Int.fmod_eq_emod_of_nonneg _ (by decide)]
  exact ⟨c % 32, (k &&& (k ^^^ 16)), by unfold ev; omega, ⟨by omega, h2, by rw [t2]; exact fun h => by cases h⟩⟩
theorem wc_other {c k : Nat} (hc : c < 1114112) (hk : k < 64) (h : ¬ (64 ≤ ev c k % 4194304 ∧ ev c k % 4194304 ≤ 95 ∨ 97 ≤ ev c k % 4194304 ∧ ev c k % 4194304 ≤ 122)) (h3 : ¬ ev c k % 4194304 < 32) :
    ∃ c' k', ev c k % 4194304 + Builtin.bitOr (ev c k - ev c k % 4194304) 67108864 = ev c' k' ∧ VK c' k' := by
  obtain ⟨e1, h1⟩ := bor16 k hk
  rw [ev_bits hc]
  rw [ev_mod hc] at h h3 ⊢
  rw [e1]
  exact ⟨c, _, rfl, ⟨hc, h1, fun _ => ⟨by omega, by rw [← Bool.not_eq_true, hcc_iff]; exact h⟩⟩⟩
theorem wl_bit {c k b : Nat} {B : Int} (v : VK c k) (h : Builtin.bitOr (4194304 * (k : Int)) B = 4194304 * ((k ||| b : Nat) : Int) ∧ (k ||| b) < 64 ∧ (k ||| b).testBit 4 = k.testBit 4) : ∃ c' k', ev c k % 4194304 + Builtin.bitOr (ev c k - ev c k % 4194304) B = ev c' k' ∧ VK c' k' := by
  rw [ev_bits v.hc, ev_mod v.hc, h.1]
  exact ⟨c, _, rfl, ⟨v.hc, h.2.1, by rw [h.2.2]; exact v.ok⟩⟩
theorem REv.use {f : Addr} {d u : Nat} {vs : List Value} (C : Calls f d u vs [] REv) {w : World} {mean : ExcName → Option Value} {mg mb : Str → Option Value} {dp un : Nat} {gd : Option (List Code)} {cn : Str} {cs : Scope} {a : Addr} {ccd : Value} {cl : List (Str × Addr)} {outer : List Env} {A₀ : Around} {base h₀ : Heap} {L : Addr} {m : Str → Option Value} {s : Shared} {Q E : Value → Shared → Prop} {news : List (Addr × Obj)}
    (B : Below A₀ base outer h₀) (F : Fr h₀ L s.heap m) (X : (KF w.params).In h₀) (N : News h₀ L s.heap news) (T : Top hd.view_39 LL mean mg mb h₀) (hk : cs.kind = .function) (hdp : dp + d < recursionLimit) (hun : un + u < cLine)
    (ret : ∀ (c k : Nat) (t : Tok) (h' : Heap) (tk' : Nat), VK c k → Fr h₀ L h' m → News h₀ L h' news → Q (.int (ev c k) t) { s with heap := h', toks := tk' }) : wpAny (model PG w) (ktrTop dp un gd cn cs L a ccd cl outer) (call (.ref f) vs) Q E s :=
  C.use0 B F X N T hk hdp hun fun _ _ h' tk' F' N' _ ⟨c, k, t, e, v⟩ => e ▸ ret c k t h' tk' v F' (News.right N')
end Mine
namespace Mine
set_option maxRecDepth 100000
noncomputable def LET : List Nat := [65, 67, 72, 77, 83, 115]
/-- the letters in their one order -/
noncomputable def ordL (l : List Nat) : List Nat := LET.filter fun c => l.contains c
noncomputable def S (l : List Nat) : Str := ⟨l.toArray⟩
/-- each letter with its hyphen -/
noncomputable def ltx (l : List Nat) : List Nat := l.flatMap fun c => [c, 45]
theorem S_toList (x : Str) : S x.cps.toList = x := rfl
theorem S_length (l : List Nat) : (S l).length = l.length := by show l.toArray.size = _; simp
theorem letters_is : (Str.ofString "ACHMSs") = S LET := by decide +kernel
theorem hyphen_is : (Str.ofString "-") = (⟨#[45]⟩ : Str) := by decide +kernel
theorem S_get {l : List Nat} {i c : Nat} (h : (S l).cps[i]? = some c) : l[i]? = some c := by simpa [S] using h
theorem join_sel (L : List Nat) : Txt.join (Str.ofString "") (L.map fun c => (⟨#[c]⟩ : Str)) = S L := by
  rw [ofString_empty]; exact (StrLaws.glued_eq_join _ _).trans (join_ones L)
theorem S_append (a b : List Nat) : S a ++ S b = S (a ++ b) := Str.ext' (by show a.toArray ++ b.toArray = (a ++ b).toArray; simp)
theorem join_hyph : ∀ L : List Nat, Str.join ⟨#[]⟩ (L.map fun c => (⟨#[c, 45]⟩ : Str)) = S (ltx L)
  | [] => rfl
  | [c] => rfl
  | c :: d :: r => by
    have ih := join_hyph (d :: r)
    show (⟨#[c, 45]⟩ : Str) ++ ⟨#[]⟩ ++ Str.join ⟨#[]⟩ ((d :: r).map fun k => (⟨#[k, 45]⟩ : Str)) = _
    rw [ih]
    show S [c, 45] ++ S [] ++ S (ltx (d :: r)) = _
    rw [S_append, S_append]
    rfl
theorem join_hyph' (L : List Nat) : Txt.join (Str.ofString "") (L.map fun c => (⟨#[c, 45]⟩ : Str)) = S (ltx L) := by
  rw [ofString_empty]; exact (StrLaws.glued_eq_join _ _).trans (join_hyph L)
theorem joinOk_few {sep : Str} (hs : sep = ⟨#[]⟩) {texts : List Str} (h : texts.length ≤ 1000) (h2 : ∀ y ∈ texts, y.length ≤ 2) : JoinOk sep texts = true := by
  subst hs
  unfold JoinOk
  rw [Bool.not_eq_true']
  exact StrLaws.joinFits (B := 2) h2 (by show _ + _ * 0 ≤ _; omega)
theorem ordL_length (l : List Nat) : (ordL l).length ≤ 6 := List.length_filter_le _ _
theorem ltx_length : ∀ l : List Nat, (ltx l).length = 2 * l.length
  | [] => rfl
  | c :: r => by show ([c, 45] ++ ltx r).length = _; rw [List.length_append, ltx_length r]; simp; omega
/-- what stands in the list so far are texts -/
noncomputable def TXs (ys : List Value) (ts : List Str) : Prop := ∃ l : List (Str × Tok), ys = strValues l ∧ l.map (·.1) = ts
theorem TXs.nil : TXs [] [] := ⟨[], rfl, rfl⟩
theorem TXs.snoc {ys : List Value} {ts : List Str} {x : Str} {u : Tok} (h : TXs ys ts) : TXs (ys ++ [.str x u]) (ts ++ [x]) := by
  obtain ⟨l, rfl, rfl⟩ := h
  exact ⟨l ++ [(x, u)], by simp [strValues], by simp⟩
theorem TXs.snoc' {ys : List Value} {ts ts' : List Str} {x : Str} {u : Tok} (h : TXs ys ts) (e : ts' = ts ++ [x]) : TXs (ys ++ [.str x u]) ts' := e ▸ h.snoc
theorem TXs.same {ys : List Value} {ts ts' : List Str} (h : TXs ys ts) (e : ts' = ts) : TXs ys ts' := e ▸ h
theorem take_filter {l : List Nat} {p : Nat → Bool} {i c : Nat} (h : l[i]? = some c) (hp : p c = true) : (l.take (i + 1)).filter p = (l.take i).filter p ++ [c] := by
  rw [List.take_add_one, h]; simp [List.filter_append, hp]
theorem take_filter_no {l : List Nat} {p : Nat → Bool} {i c : Nat} (h : l[i]? = some c) (hp : p c = false) : (l.take (i + 1)).filter p = (l.take i).filter p := by
  rw [List.take_add_one, h]; simp [List.filter_append, hp]
theorem take_one {l : List Nat} {i c : Nat} (h : l[i]? = some c) : l.take (i + 1) = l.take i ++ [c] := by
  rw [List.take_add_one, h]; rfl
theorem found {x : Str} {c : Nat} (h : (Builtin.Str.occurrences x ⟨#[c]⟩ 0 x.length 1).isEmpty = false) : x.cps.toList.contains c = true := by
  have := StrLaws.found_one x c
  rw [h] at this
  simpa using this.symm
theorem found_no {x : Str} {c : Nat} (h : (Builtin.Str.occurrences x ⟨#[c]⟩ 0 x.length 1).isEmpty = true) : x.cps.toList.contains c = false := by
  have := StrLaws.found_one x c
  rw [h] at this
  simpa using this.symm
section
variable {prog : Program} {w : World} {A : Around} {E : Value → Shared → Prop} {s : Shared} {x : Str} {t : Tok} {Q : Value → Shared → Prop} {h₀ : Heap} {L D : Addr} {news : List (Addr × Obj)}
theorem join_TX {ys : List Value} {ts : List Str} (N : News h₀ L s.heap news) (hm : (D, LCg.lst ys) ∈ news) (h : TXs ys ts) (hok : JoinOk x ts = true) (hq : ∀ t' k, Q (.str (Txt.join x ts) t') { s with toks := k }) :
    wpAny (model prog w) A (call (.builtin "str.join") [.str x t, .ref D]) Q E s := by
  obtain ⟨l, rfl, rfl⟩ := h
  exact SC.join (News.isList N hm) rfl hok hq
end
end Mine
namespace Mine
set_option maxRecDepth 100000
/-- one of the six letters -/
noncomputable def isL (x : Nat) : Prop := x = 65 ∨ x = 67 ∨ x = 72 ∨ x = 77 ∨ x = 83 ∨ x = 115
noncomputable def bitOf : Nat → Nat
  | 65 => 0
  | 67 => 4
  | 72 => 2
  | 77 => 5
  | 83 => 3
  | _ => 1
noncomputable def hasL (k c : Nat) : Bool := k.testBit (bitOf c)
noncomputable def Bof (c : Nat) : Int := ((2 ^ (22 + bitOf c) : Nat) : Int)
/-- the letters of the bits k -/
noncomputable def klets (k : Nat) : List Nat := LET.filter (hasL k)
theorem isL_get {i c : Nat} (h : LET[i]? = some c) : isL c := by
  have hi : i < 6 := by
    have := (List.getElem?_eq_some_iff.mp h).1
    exact this
  match i, hi with
  | 0, _ => cases h; exact .inl rfl
  | 1, _ => cases h; exact .inr (.inl rfl)
  | 2, _ => cases h; exact .inr (.inr (.inl rfl))
  | 3, _ => cases h; exact .inr (.inr (.inr (.inl rfl)))
  | 4, _ => cases h; exact .inr (.inr (.inr (.inr (.inl rfl))))
  | 5, _ => cases h; exact .inr (.inr (.inr (.inr (.inr rfl))))
theorem Bof_bound {c : Nat} (h : isL c) : 0 ≤ Bof c ∧ Bof c < 2 ^ 30 := by
  rcases h with rfl | rfl | rfl | rfl | rfl | rfl <;> decide
theorem ev_toNat (c k : Nat) : (ev c k).toNat = 2 ^ 22 * k + c := by unfold ev; omega
theorem and_two_pow' (n i : Nat) : n &&& 2 ^ i = if n.testBit i then 2 ^ i else 0 := by
  apply Nat.eq_of_testBit_eq
  intro j
  rw [Nat.testBit_and, Nat.testBit_two_pow]
  by_cases h : i = j
  · subst h; cases hb : n.testBit i <;> simp [Nat.testBit_two_pow]
  · cases n.testBit i <;> simp [h, Nat.testBit_two_pow]
theorem and_ev {c k j : Nat} (hc : c < 1114112) : Builtin.bitAnd (ev c k) ((2 ^ (22 + j) : Nat) : Int) = if k.testBit j then ((2 ^ (22 + j) : Nat) : Int) else 0 := by
  have e : (2 ^ 22 * k + c).testBit (22 + j) = k.testBit j := by
    rw [Nat.testBit_two_pow_mul_add _ (Nat.lt_trans hc (by decide)), if_neg (show ¬ 22 + j < 22 by omega), Nat.add_sub_cancel_left]
  rw [bitAnd_pp (ev_nonneg c k) (Int.natCast_nonneg _), Int.toNat_natCast, ev_toNat, and_two_pow', e]
  cases k.testBit j <;> simp
theorem and_bof {c k x : Nat} (hc : c < 1114112) : (Builtin.bitAnd (ev c k) (Bof x) ≠ 0) ↔ hasL k x = true := by
  unfold Bof hasL
  rw [and_ev hc]
  cases k.testBit (bitOf x)
  · simp
  · simp only [if_true, iff_true]
    exact fun h => absurd (Int.natCast_eq_zero.mp h) (Nat.ne_of_gt (Nat.two_pow_pos _))
theorem bits_get {ys : Array Value} {t1 t2 t3 t4 t5 t6 : Tok} (e : ys = #[.int 4194304 t1, .int 67108864 t2, .int 16777216 t3, .int 134217728 t4, .int 33554432 t5, .int 8388608 t6]) {i c : Nat} {y : Value} (h : LET[i]? = some c) (hy : ys[i]? = some y) : ∃ t, y = .int (Bof c) t := by
  subst e
  have hi : i < 6 := (List.getElem?_eq_some_iff.mp h).1
  match i, hi with
  | 0, _ => cases h; cases hy; exact ⟨_, rfl⟩
  | 1, _ => cases h; cases hy; exact ⟨_, rfl⟩
  | 2, _ => cases h; cases hy; exact ⟨_, rfl⟩
  | 3, _ => cases h; cases hy; exact ⟨_, rfl⟩
  | 4, _ => cases h; cases hy; exact ⟨_, rfl⟩
  | 5, _ => cases h; cases hy; exact ⟨_, rfl⟩
end Mine
namespace Mine
set_option maxRecDepth 100000
open PySem.Spec PySem.Calls LCg LCt
section
variable {prog : Program} {w : World} {A : Around} {E : Value → Shared → Prop} {s : Shared} {env : Env} {h₀ : Heap} {x : Str} {body : List Stmt} {Q : Flow → Shared → Prop}
theorem loopAtV {I : Addr} {fp wr : List Addr} {n : Nat} {P : Nat → Value → Prop} {St : Nat → Heap → Prop} {m : Str → Option Value} {news : List (Addr × Obj)} {J : Nat → (Str → Option Value) → List (Addr × Obj) → Prop}
    (W : Walks prog w A I fp wr n P St) (h1 : env.locals ∉ fp) (h2 : ∀ b ∈ wr, h₀.get? b = none) (h3 : ∀ p ∈ news, p.1 ∉ wr) (hst : St 0 s.heap) (F : Fr h₀ env.locals s.heap m) (N : News h₀ env.locals s.heap news) (hj : J 0 m news)
    (turn : ∀ i v m₁ news₁ h tk own, i < n → P i v → J i m₁ news₁ → (∀ p ∈ news₁, p.1 ∉ wr) → (∀ p ∈ own, p.1 ∈ fp) → Fr h₀ env.locals h (fun y => if y = x then some v else m₁ y) → News h₀ env.locals h (own ++ news₁) →
      wpAny (model prog w) A (execs body env) (LoopStepV h₀ env.locals wr own (J (i + 1)) { s with heap := h, toks := tk } (fun v s' => Q (.ret v) s') fun s' => Q .next s') E { s with heap := h, toks := tk })
    (done : ∀ h' tk m' news', Fr h₀ env.locals h' m' → News h₀ env.locals h' news' → J n m' news' → Q .next { s with heap := h', toks := tk }) : LoopAtV prog w A h₀ env x body Q E (.ref I) s :=
  ⟨I, fp, wr, n, P, St, m, news, J, rfl, W, h1, h2, h3, hst, F, N, hj, fun i v m₁ news₁ s₁ own ⟨h, tk, e⟩ hi hP hJ ho hw _ _ _ F₁ N₁ => by subst e; exact turn i v m₁ news₁ h tk own hi hP hJ ho hw F₁ N₁, fun h' tk m' news' F' N' _ hJ => done h' tk m' news' F' N' hJ⟩
theorem frame1 {m₀ m₁ p : Str → Option Value} {x b : Str} {v : Value} (hv : m₁ b = some v) (hm : ∀ z, z ≠ x → z ≠ b → m₁ z = m₀ z) : (fun z => if z = x then p z else m₁ z) = fun z => if z = x then p z else if z = b then some v else m₀ z := by
  funext z
  by_cases h1 : z = x
  · rw [if_pos h1, if_pos h1]
  · rw [if_neg h1, if_neg h1]
    by_cases h2 : z = b
    · rw [if_pos h2, h2, hv]
    · rw [if_neg h2]; exact hm z h1 h2
/-- a loop over a text that turns one name -/
theorem iter_str1 {y : Str} {t : Tok} {b : Str} {m₀ : Str → Option Value} {news : List (Addr × Obj)} {v₀ : Value} (PV : Nat → Value → Prop)
    (hh : A.handled = none) (F : Fr h₀ env.locals s.heap m₀) (N : News h₀ env.locals s.heap news) (hb : m₀ b = some v₀) (h0 : PV 0 v₀)
    (turn : ∀ i c u v h tk own, y.cps[i]? = some c → PV i v → Fr h₀ env.locals h (fun z => if z = x then some (.str ⟨#[c]⟩ u) else if z = b then some v else m₀ z) → News h₀ env.locals h (own ++ news) →
      wpAny (model prog w) A (execs body env) (InvPost h₀ env.locals (fun m' => (∃ v', m' b = some v' ∧ PV (i + 1) v') ∧ ∀ z, z ≠ x → z ≠ b → m' z = m₀ z) (own ++ news) { s with heap := h, toks := tk } Q) E { s with heap := h, toks := tk })
    (done : ∀ (u : Str → Option Value) v h tk, PV y.cps.size v → Fr h₀ env.locals h (fun z => if z = x then u z else if z = b then some v else m₀ z) → News h₀ env.locals h news → Q .next { s with heap := h, toks := tk }) :
    wpAny (model prog w) A (pyIter (.str y t)) (fun it s₂ => LoopAtV prog w A h₀ env x body Q E it s₂) E s := by
  refine strWalks hh fun o St W hIo hst => ?_
  have up : ∀ b ob, s.heap.get? b = some ob → (s.heap.push o).get? b = some ob := fun b o e => Heap.get?_push_of_some _ e
  let J : Nat → (Str → Option Value) → List (Addr × Obj) → Prop := fun i m₁ news₁ => news₁ = news ∧ (∃ v', m₁ b = some v' ∧ PV i v') ∧ ∀ z, z ≠ x → z ≠ b → m₁ z = m₀ z
  refine loopAtV (J := J) W ?_ ?_ ?_ hst (F.keeps up) (N.grown up) ⟨rfl, ⟨v₀, hb, h0⟩, fun _ _ _ => rfl⟩ ?_ ?_
  · intro hm
    exact absurd F.ns.lt ((List.mem_singleton.mp hm) ▸ Nat.lt_irrefl _)
  · intro b hb
    rw [List.mem_singleton.mp hb]
    exact next_is_new F
  · intro p hp hI
    exact absurd (Heap.lt_size (N p hp).1) ((List.mem_singleton.mp hI) ▸ Nat.lt_irrefl _)
  · rintro i v m₁ news₁ hh' tk' own hin ⟨c, u, hc, rfl⟩ ⟨rfl, ⟨vb, hvb, hPV⟩, hm⟩ hoff _ F₁ N₁
    rw [frame1 hvb hm] at F₁
    refine wpAny_mono (turn i c u vb hh' tk' own hc hPV F₁ N₁) (fun f s₂ p => ?_) fun _ _ e => e
    have fin : InvEnd h₀ env.locals (fun m' => (∃ v', m' b = some v' ∧ PV (i + 1) v') ∧ ∀ z, z ≠ x → z ≠ b → m' z = m₀ z) (own ++ news₁) { s with heap := hh', toks := tk' } s₂ → LoopStepU h₀ env.locals [s.heap.objs.size] own (J (i + 1)) { s with heap := hh', toks := tk' } .next s₂ := by
      rintro ⟨h', tk, m', news', e, F', N', hn, hm⟩
      exact ⟨rfl, h', tk, m', news₁, e, F', fun p hp => N' p (hn p hp), hoff, rfl, hm⟩
    cases f with
    | ret v => exact .ret p
    | brk => exact .brk p
    | next => exact .next (fin p)
    | cont => exact .cont (fin p)
  · rintro h' tk m₁ news' F₁ N' ⟨rfl, ⟨vb, hvb, hPV⟩, hm⟩
    refine done m₁ vb h' tk hPV ?_ N'
    rw [← frame1 hvb hm, show (fun z => if z = x then m₁ z else m₁ z) = m₁ from funext fun z => ite_self _]; exact F₁
end
end Mine
namespace Mine
set_option maxRecDepth 100000
open PySem.Builtin PySem.Builtin.Str
theorem item_S {l : List Nat} {i c : Nat} (h : l[i]? = some c) : Txt.item (S l) (i : Int) = ⟨#[c]⟩ := by
  have hi : i < l.length := (List.getElem?_eq_some_iff.mp h).1
  have e : Txt.charAt (S l) (i : Int) = some c := by
    unfold Txt.charAt
    rw [seqIndex_of (Int.natCast_nonneg _) (by rw [S_length]; exact_mod_cast hi), Int.toNat_natCast, Option.bind_some]
    show l.toArray[i]? = some c
    simpa using h
  unfold Txt.item
  rw [e]
  rfl
theorem item_last {l : List Nat} {c : Nat} (h : l.getLast? = some c) : Txt.item (S l) (-1) = ⟨#[c]⟩ := by
  have hne : l ≠ [] := fun q => by rw [q] at h; cases h
  have hlen : 0 < l.length := List.length_pos_iff.mpr hne
  have e : Txt.charAt (S l) (-1) = some c := by
    unfold Txt.charAt seqIndex?
    rw [S_length]
    simp only [show (-1 : Int) < 0 from by decide, if_true]
    have e1 : (0 ≤ -1 + (l.length : Int) && decide (-1 + (l.length : Int) < (l.length : Int))) = true := by
      simp only [Bool.and_eq_true, decide_eq_true_eq]; omega
    rw [if_pos e1, Option.bind_some]
    show l.toArray[(-1 + (l.length : Int)).toNat]? = some c
    rw [show (-1 + (l.length : Int)).toNat = l.length - 1 by omega]
    rw [List.getLast?_eq_getElem?] at h
    simpa using h
  unfold Txt.item
  rw [e]
  rfl
theorem slice_from {l : List Nat} {i : Nat} (h : i ≤ l.length) : Txt.slice (S l) (some (i : Int)) none = S (l.drop i) := by
  rw [slice_from_eq (b := (l.length : Int)) (Int.natCast_nonneg _) (by rw [S_length]; exact_mod_cast h) (by rw [S_length]), Int.toNat_natCast, show ((l.length : Int) - (i : Int)).toNat = l.length - i by omega]
  show S ((l.drop i).take (l.length - i)) = _
  rw [List.take_of_length_le (by rw [List.length_drop]; exact Nat.le_refl _)]
theorem slice_in {l : List Nat} {i j : Nat} (h : i ≤ j) (hj : j ≤ l.length) : Txt.slice (S l) (some (i : Int)) (some (j : Int)) = S ((l.drop i).take (j - i)) :=
  StrLaws.sliceText_nat (S l) h (by rw [S_length]; exact hj)
theorem slice_clip (x : Str) (i j : Int) (h0 : 0 ≤ j) : Txt.slice x (some i) (some j) = Txt.slice x (some i) (some (min j x.length)) := by
  unfold Txt.slice strSliceIndices
  have e : (if j < 0 then j + (x.length : Int) else j) = j := if_neg (by omega)
  have e2 : (if min j (x.length : Int) < 0 then min j (x.length : Int) + (x.length : Int) else min j (x.length : Int)) = min j x.length := if_neg (by omega)
  simp only [show ((1 : Int) > 0) = True from eq_true (by decide), if_true, e, e2, show min (min j (x.length : Int)) (x.length : Int) = min j (x.length : Int) by omega]
theorem slice_two {l : List Nat} {i : Nat} (h : i ≤ l.length) : Txt.slice (S l) (some (i : Int)) (some ((i : Int) + 2)) = S ((l.drop i).take 2) := by
  by_cases h2 : i + 2 ≤ l.length
  · have := slice_in (l := l) (i := i) (j := i + 2) (by omega) h2
    rw [show i + 2 - i = 2 by omega] at this
    exact_mod_cast this
  · rw [slice_clip _ _ _ (by omega), S_length, show min ((i : Int) + 2) (l.length : Int) = ((l.length : Nat) : Int) by omega, slice_in h (Nat.le_refl _)]
    rw [List.take_of_length_le (by rw [List.length_drop]; exact Nat.le_refl _), List.take_of_length_le (by rw [List.length_drop]; omega)]
theorem slice_in_last {l : List Nat} (h : 2 ≤ l.length) : Txt.slice (S l) (some 1) (some (-1)) = S ((l.drop 1).take (l.length - 2)) := by
  have e := StrLaws.sliceText_neg_hi (S l) (some 1) (j := -1) (by decide) (by rw [S_length]; omega)
  have e2 : Txt.slice (S l) (some 1) (some (-1)) = Txt.slice (S l) (some ((1 : Nat) : Int)) (some ((l.length - 1 : Nat) : Int)) := by
    refine e.trans ?_
    rw [S_length, show (-1 : Int) + (l.length : Int) = ((l.length - 1 : Nat) : Int) by omega]
    rfl
  rw [e2, slice_in (by omega) (by omega), show l.length - 1 - 1 = l.length - 2 by omega]
theorem eq_S {a b : List Nat} : (S a == S b) = decide (a = b) := by
  by_cases h : a = b
  · subst h; simp
  · rw [decide_eq_false h, beq_eq_false_iff_ne]
    exact fun q => h (by unfold S at q; injection q with q; simpa using q)
end Mine
namespace Mine
set_option maxRecDepth 100000
section
variable {prog : Program} {w : World} {A : Around} {E : Value → Shared → Prop} {s : Shared} {l : List Nat} {a b : Nat} {t u : Tok} {Q : Value → Shared → Prop} {value slice : PySem.Expr}
theorem lenT (hsz : l.length ≤ 16777216) (h : ∀ t' k, Q (.int (l.length : Int) t') { s with toks := k }) : wpAny (model prog w) A (call (.builtin "len") [.str (S l) t]) Q E s :=
  SBL.len (by rw [S_length]; omega) (by rw [S_length]; exact h _ _)
theorem itemT0 (h : ∀ t' k, Q (.str ⟨#[a]⟩ t') { s with toks := k })
    (hs : subscripted slice false (.str (S (a :: l)) t) (.int 0 u) = operate [.str (S (a :: l)) t, .int 0 u] (getItem (.str (S (a :: l)) t) (.int 0 u)) := by with_unfolding_all rfl)
    (ht : ∀ r, letTemporaryGo value (.str (S (a :: l)) t) r = pure () := by intro _; with_unfolding_all rfl) : wpAny (model prog w) A (subscriptTail value slice (.str (S (a :: l)) t) (.int 0 u)) Q E s :=
  item_str (by decide) (by omega) (by rw [S_length, List.length_cons]; omega) (fun _ => by rw [show (0 : Int) = ((0 : Nat) : Int) from rfl, item_S (c := a) rfl]; exact h _ _) hs ht
theorem itemT1 (h : ∀ t' k, Q (.str ⟨#[b]⟩ t') { s with toks := k })
    (hs : subscripted slice false (.str (S (a :: b :: l)) t) (.int 1 u) = operate [.str (S (a :: b :: l)) t, .int 1 u] (getItem (.str (S (a :: b :: l)) t) (.int 1 u)) := by with_unfolding_all rfl)
    (ht : ∀ r, letTemporaryGo value (.str (S (a :: b :: l)) t) r = pure () := by intro _; with_unfolding_all rfl) : wpAny (model prog w) A (subscriptTail value slice (.str (S (a :: b :: l)) t) (.int 1 u)) Q E s :=
  item_str (by decide) (by omega) (by rw [S_length, List.length_cons, List.length_cons]; omega) (fun _ => by rw [show (1 : Int) = ((1 : Nat) : Int) from rfl, item_S (c := b) rfl]; exact h _ _) hs ht
theorem sliceT2 {h₀ : Heap} {L : Addr} {m : Str → Option Value} {news : List (Addr × Obj)} {ui : Tok} (hF : Fr h₀ L s.heap m) (hN : News h₀ L s.heap news) (hsz : (a :: b :: l).length ≤ 16777216) (h : ∀ h' t' k, Fr h₀ L h' m → News h₀ L h' news → Q (.str (S l) t') { s with heap := h', toks := k })
    (hs : subscripted slice false (.str (S (a :: b :: l)) t) (.ref s.heap.objs.size) = operate [.ref s.heap.objs.size, .str (S (a :: b :: l)) t] (getItem (.str (S (a :: b :: l)) t) (.ref s.heap.objs.size)) := by with_unfolding_all rfl)
    (ht : ∀ r, letTemporaryGo value (.str (S (a :: b :: l)) t) r = pure () := by intro _; with_unfolding_all rfl) :
    wpAny (model prog w) A (subscriptTail value slice (.str (S (a :: b :: l)) t) (.ref s.heap.objs.size)) Q E { s with heap := s.heap.push { cls := .type "slice", data := .fields #[.int 2 ui, .none, .none] } } :=
  slice_strN_sn hF hN (fun h' t' k F' N' => by
    have e : Txt.slice (S (a :: b :: l)) (some 2) none = S l := (slice_from (l := a :: b :: l) (i := 2) (by simp)).trans rfl
    rw [e]; exact h h' t' k F' N') hs ht (by rw [S_length, PySem.sizeLine_eq]; exact hsz)
theorem addT (hsz : l.length ≤ 16777215) (h : ∀ t' k, Q (.str (S (l ++ [a])) t') { s with toks := k }) : wpAny (model prog w) A (binaryOp .Add (.str (S l) t) (.str ⟨#[a]⟩ u)) Q E s :=
  PyProof.Rows.add_str (fun t' k => by rw [show (⟨#[a]⟩ : Str) = S [a] from rfl, S_append]; exact h t' k) (by rw [S_length, PySem.sizeLine_eq]; show _ + 1 ≤ _; omega)
theorem add_S {l' : List Nat} (hsz : l.length + l'.length ≤ 16777216) (h : ∀ t' tk, Q (.str (S (l ++ l')) t') { s with toks := tk }) : wpAny (model prog w) A (binaryOp .Add (.str (S l) t) (.str (S l') u)) Q E s :=
  PyProof.Rows.add_str (fun t' tk => by rw [S_append]; exact h t' tk) (by rw [S_length, S_length, PySem.sizeLine_eq]; exact hsz)
end
end Mine
namespace Mine
set_option maxRecDepth 100000
open PySem.Builtin
theorem tupidx (a b c u : Tok) (t : Addr) (x : Int) (i : Nat) (hi : (x = 9 ∧ i = 0) ∨ (x = 13 ∧ i = 1) ∨ (x = 27 ∧ i = 2)) :
    Meets (Builtin.«tuple.index» ⟨[.ref t, .int x u], []⟩) (fun _ R s => IsTup s.heap t #[.int 9 a, .int 13 b, .int 27 c] ∧ R (.ok (.ret (.int i s.toks))) { s with toks := s.toks + 1 }) := by
  intro prog w A R s h
  obtain ⟨hl, h⟩ := h
  obtain ⟨o, ho, hc, n, hd⟩ := hl
  unfold Builtin.«tuple.index»
  refine wpAny_bind ?_
  show wpAny _ _ (pure (Value.ref t, [Value.int x u])) _ _ _
  refine wpAny_pure ?_
  refine wpAny_bind ?_
  unfold Builtin.Tuple.tupleItemsOf
  refine wpAny_bind (wpAny_seqItems ho hd ?_)
  refine wpAny_pure ?_
  refine wpAny_bind (wpAny_pure (wpAny_bind (wpAny_pure ?_)))
  simp only [Std.Legacy.Range.forIn_eq_forIn_range']
  rw [show List.range' 0 (([:Min.min (#[Value.int 9 a, Value.int 13 b, Value.int 27 c] : Array Value).size (#[Value.int 9 a, Value.int 13 b, Value.int 27 c] : Array Value).size] : Std.Legacy.Range).size) = [0, 1, 2] from by simp [Std.Legacy.Range.size, List.range']]
  simp only [List.forIn_cons, List.forIn_nil]
  rcases hi with ⟨rfl, rfl⟩ | ⟨rfl, rfl⟩ | ⟨rfl, rfl⟩
  · refine wpAny_bind (wpAny_bind ?_)
    show wpAny _ _ (eqBool (.int 9 a) (.int 9 u) >>= _) _ _ _
    refine wpAny_bind (wpAny_eqBool_int ?_)
    wp_walk
    exact h
  · refine wpAny_bind (wpAny_bind ?_)
    show wpAny _ _ (eqBool (.int 9 a) (.int 13 u) >>= _) _ _ _
    refine wpAny_bind (wpAny_eqBool_int ?_)
    refine wpAny_pure (wpAny_bind ?_)
    show wpAny _ _ (eqBool (.int 13 b) (.int 13 u) >>= _) _ _ _
    refine wpAny_bind (wpAny_eqBool_int ?_)
    wp_walk
    exact h
  · refine wpAny_bind (wpAny_bind ?_)
    show wpAny _ _ (eqBool (.int 9 a) (.int 27 u) >>= _) _ _ _
    refine wpAny_bind (wpAny_eqBool_int ?_)
    refine wpAny_pure (wpAny_bind ?_)
    show wpAny _ _ (eqBool (.int 13 b) (.int 27 u) >>= _) _ _ _
    refine wpAny_bind (wpAny_eqBool_int ?_)
    refine wpAny_pure (wpAny_bind ?_)
    show wpAny _ _ (eqBool (.int 27 c) (.int 27 u) >>= _) _ _ _
    refine wpAny_bind (wpAny_eqBool_int ?_)
    wp_walk
    exact h
theorem call_tupidx {prog : Program} {w : World} {A : Around} {E : Value → Shared → Prop} {s : Shared} {a b c u : Tok} {t : Addr} {x : Int} (i : Nat) {Q : Value → Shared → Prop} (hl : IsTup s.heap t (List.toArray [.int 9 a, .int 13 b, .int 27 c])) (hi : (x = 9 ∧ i = 0) ∨ (x = 13 ∧ i = 1) ∨ (x = 27 ∧ i = 2))
    (h : Q (.int i s.toks) { s with toks := s.toks + 1 }) : wpAny (model prog w) A (call (.builtin "tuple.index") [.ref t, .int x u]) Q E s :=
  call_meets PySem.F.slot_tuple_index hl.typeIs PySem.F.entry_tuple_index (PySem.F.args_tuple_index_2 _ _) (tupidx a b c u t x i hi) ⟨hl, h⟩
end Mine
namespace Mine
set_option maxRecDepth 100000
/-! zip of a text (all signs below 128) and a tuple -/
section
variable {prog : Program} {w : World} {A : Around} {E : Value → Shared → Prop} {s : Shared}
/-- the tuple's iterator hands on its item -/
theorem nextOf_tuple {it tp : Addr} {k : Nat} {items : Array Value} {v : Value} {Q : Value → Shared → Prop} (hit : s.heap.IsTupleIter it tp k) (ht : s.heap.IsTuple tp items) (hv : items[k]? = some v)
    (hQ : ∀ h', h'.IsTupleIter it tp (k + 1) → Heap.SameBut it s.heap h' → Q v { s with heap := h' }) : wpAny (model prog w) A (Builtin.SmallTypes.nextOf (.ref it)) Q E s := by
  obtain ⟨oi, hoi, hci, hdi⟩ := id hit
  obtain ⟨ot, hot, _, nt, hdt⟩ := ht
  unfold Builtin.SmallTypes.nextOf
  refine wpAny_bind (wpAny_callSpecial?_slot (name := Str.ofString "__next__") hit.typeIs F.slot_tuple_iterator_next (wpAny_call_entry F.slot_tuple_iterator_next hit.typeIs F.entry_tuple_iterator_next ?_ (F.args_tuple_iterator_next_1 _)))
  show wpAny _ _ (field (.ref it) 0 >>= _) _ _ s
  refine wpAny_bind (wpAny_field hoi hdi (x := .ref tp) rfl ?_)
  show wpAny _ _ (if (Value.ref tp == Value.none) = true then _ else _) _ _ s
  rw [if_neg (show ¬ ((Value.ref tp == Value.none) = true) from Bool.false_ne_true)]
  show wpAny _ _ (field (.ref it) 1 >>= _) _ _ s
  refine wpAny_bind (wpAny_field hoi hdi (x := .int k 0) rfl ?_)
  show wpAny _ _ (seqItems? (.ref tp) >>= _) _ _ s
  refine wpAny_bind (wpAny_seqItems hot hdt ?_)
  simp only [Int.toNat_natCast, hv]
  refine wpAny_bind (wpAny_setField hoi hdi (by simp) (wpAny_pure ⟨v, rfl, wpAny_pure (hQ _ ?_ (Heap.SameBut.update ..))⟩))
  exact ⟨_, Heap.get?_update_self _ hoi (Obj.isFreed_of_fields (Obj.data_mapFields hdi _)), (Obj.cls_mapFields ..).trans hci, by rw [Obj.data_mapFields hdi]; simp [rawInt]⟩

structure Six (z TI TO i1 i2 tp : Addr) : Prop where
  a1 : TI ≠ z
  a2 : TO ≠ z
  a3 : i1 ≠ z
  a4 : i2 ≠ z
  a5 : tp ≠ z
  b1 : TI ≠ TO
  b2 : i1 ≠ TO
  b3 : i2 ≠ TO
  b4 : tp ≠ TO
  c1 : TI ≠ i1
  c2 : TI ≠ i2
  c3 : i1 ≠ i2
  c4 : tp ≠ i1
  c5 : tp ≠ i2

/-- where the zip stands -/
noncomputable def ZSt (z TI TO i1 i2 tp : Addr) (x : Str) (t : Tok) (ys : Array Value) (f0 : Value) (k : Nat) (h : Heap) : Prop :=
  IsZip h z TI TO f0 ∧ IsPair h TI (.ref i1) (.ref i2) ∧ (∃ a b, IsPair h TO a b) ∧ h.IsStrIter i1 "str_ascii_iterator" x t k ∧ h.IsTupleIter i2 tp k ∧ h.IsTuple tp ys

theorem strIter_at {h h' : Heap} {a : Addr} {T : String} {x : Str} {t : Tok} {k : Nat} (y : h.IsStrIter a T x t k) (e : ∀ o, h.get? a = some o → h'.get? a = some o) : h'.IsStrIter a T x t k := let ⟨o, ho, r⟩ := y; ⟨o, e _ ho, r⟩

theorem zsNext {z TI TO i1 i2 tp : Addr} {x : Str} {t : Tok} {ys : Array Value} {k c : Nat} {y : Value} {Q : Option Value → Shared → Prop} (D : Six z TI TO i1 i2 tp) (st : ZSt z TI TO i1 i2 tp x t ys .none k s.heap) (hx : x.cps[k]? = some c) (hy : ys[k]? = some y)
    (hQ : ∀ (u : Tok) (T : Addr) (h' : Heap) (tk : Nat), ZSt z TI TO i1 i2 tp x t ys (rawInt T) (k + 1) h' → h'.IsTuple T #[.str ⟨#[c]⟩ u, y] → (T ≠ z ∧ T ≠ TO ∧ T ≠ i1 ∧ T ≠ i2) →
      (∀ b o, b ≠ z → b ≠ TO → b ≠ i1 → b ≠ i2 → s.heap.get? b = some o → h'.get? b = some o) → Q (some (.ref T)) { s with heap := h', toks := tk }) :
    wpAny (model prog w) A (pyNext (.ref z)) Q E s := by
  obtain ⟨hz, hTI, ⟨a, b, hTO⟩, h1, h2, htp⟩ := st
  have hT : s.TypeIs (.ref z) "zip" := ⟨_, hz, rfl⟩
  unfold pyNext
  refine wpAny_bind (wpAny_attempt (wpAny_callSpecial?_slot (name := Str.ofString "__next__") hT F.slot_zip_next (wpAny_call_entry F.slot_zip_next hT F.entry_zip_next ?_ (F.args_zip_next_1 _))))
  show wpAny _ _ (field (.ref z) 2 >>= _) _ _ _
  refine wpAny_bind (wpAny_field hz rfl (x := .bool false) rfl ?_)
  show wpAny _ _ (field (.ref z) 3 >>= _) _ _ _
  refine wpAny_bind (wpAny_field hz rfl (x := .ref TI) rfl (wpAny_bind (wpAny_seqItems hTI rfl ?_)))
  show wpAny _ _ (Builtin.SmallTypes.ownedTupleIsFree (.ref z) >>= _) _ _ _
  unfold Builtin.SmallTypes.ownedTupleIsFree
  refine wpAny_bind (wpAny_bind (wpAny_field hz rfl (x := .none) rfl (wpAny_pure ?_)))
  simp only [if_true]
  refine wpAny_bind (wpAny_rule (wpAny_bind (wpAny_field hz rfl (x := .ref TO) rfl (wpAny_bind (wpAny_setField_rec hz (by simp) fun g₁ hz₁ k₁ => ?_)))))
  replace hz₁ : IsZip g₁ z TI TO .ellipsis := hz₁
  refine wpAny_bind ?_
  simp only [List.zipIdx_cons, List.zipIdx_nil, List.forIn_cons, List.forIn_nil]
  -- the text's sign
  refine wpAny_bind (wpAny_bind (wpAny_onRaise ?_))
  show wpAny _ _ (Builtin.SmallTypes.nextOf (.ref i1) >>= _) _ _ _
  refine wpAny_bind (wpAny_nextOf_ascii_item (strIter_at h1 fun o e => k₁.extBut _ o D.a3 e) hx fun g₂ h1₂ k₂ => wpAny_pure ?_)
  have hTO₂ : IsPair g₂ TO a b := k₂.extBut _ _ D.b2.symm (k₁.extBut _ _ D.a2 hTO)
  refine wpAny_bind (wpAny_seqItems hTO₂ rfl (wpAny_bind (wpAny_updateSeq_pair hTO₂ fun g₃ hTO₃ k₃ => ?_)))
  replace hTO₃ : IsPair g₃ TO (.str ⟨#[c]⟩ s.toks) b := hTO₃
  refine wpAny_bind (wpAny_letGo (wpAny_pure ?_))
  -- the tuple's item
  refine wpAny_bind (wpAny_bind (wpAny_onRaise ?_))
  show wpAny _ _ (Builtin.SmallTypes.nextOf (.ref i2) >>= _) _ _ _
  have to₃ : ∀ q o, q ≠ z → q ≠ i1 → q ≠ TO → s.heap.get? q = some o → g₃.get? q = some o := fun q o n1 n2 n3 e => k₃.extBut _ _ n3 (k₂.extBut _ _ n2 (k₁.extBut _ _ n1 e))
  refine wpAny_bind (nextOf_tuple (h2.at fun o e => to₃ _ o D.a4 D.c3.symm D.b3 e) (htp.at fun o e => to₃ _ o D.a5 D.c4 D.b4 e) hy fun g₄ h2₄ k₄ => wpAny_pure ?_)
  have hTO₄ : IsPair g₄ TO (.str ⟨#[c]⟩ s.toks) b := k₄.extBut _ _ D.b3.symm hTO₃
  refine wpAny_bind (wpAny_seqItems hTO₄ rfl (wpAny_bind (wpAny_updateSeq_pair hTO₄ fun g₅ hTO₅ k₅ => ?_)))
  replace hTO₅ : IsPair g₅ TO (.str ⟨#[c]⟩ s.toks) y := hTO₅
  refine wpAny_bind (wpAny_letGo (wpAny_pure (wpAny_pure ?_)))
  refine wpAny_bind (wpAny_seqItems hTO₅ rfl (wpAny_bind (wpAny_newTuple ?_)))
  have to₅ : ∀ q o, q ≠ z → q ≠ TO → q ≠ i1 → q ≠ i2 → s.heap.get? q = some o → g₅.get? q = some o := fun q o n1 n2 n3 n4 e => k₅.extBut _ _ n2 (k₄.extBut _ _ n4 (to₃ q o n1 n3 n2 e))
  have hz₅ : IsZip g₅ z TI TO .ellipsis := k₅.extBut _ _ D.a2.symm (k₄.extBut _ _ D.a4.symm (k₃.extBut _ _ D.a2.symm (k₂.extBut _ _ D.a3.symm hz₁)))
  have h1₅ : g₅.IsStrIter i1 "str_ascii_iterator" x t (k + 1) := strIter_at h1₂ fun o e => k₅.extBut _ _ D.b2 (k₄.extBut _ _ D.c3 (k₃.extBut _ _ D.b2 e))
  have h2₅ : g₅.IsTupleIter i2 tp (k + 1) := h2₄.at fun o e => k₅.extBut _ _ D.b3 e
  generalize hTe : g₅.objs.size = T
  have nz : z ≠ T := hTe ▸ Nat.ne_of_lt (Heap.lt_size hz₅)
  have nTO : TO ≠ T := hTe ▸ Nat.ne_of_lt (Heap.lt_size hTO₅)
  have n1 : i1 ≠ T := by obtain ⟨_, e, _⟩ := h1₅; exact hTe ▸ Nat.ne_of_lt (Heap.lt_size e)
  have n2 : i2 ≠ T := by obtain ⟨_, e, _⟩ := h2₅; exact hTe ▸ Nat.ne_of_lt (Heap.lt_size e)
  show wpAny _ _ (Builtin.SmallTypes.ownedTupleHandOut (.ref z) (.ref T) >>= _) _ _ _
  unfold Builtin.SmallTypes.ownedTupleHandOut
  have hz₆ : IsZip (g₅.push { cls := .type "tuple", data := .seq #[.str ⟨#[c]⟩ s.toks, y] }) z TI TO .ellipsis := Heap.get?_push_of_some _ hz₅
  refine wpAny_bind (wpAny_bind (wpAny_setField_rec hz₆ (by simp) fun g₇ hz₇ k₇ => ?_))
  replace hz₇ : IsZip g₇ z TI TO (rawInt T) := hz₇
  refine wpAny_setField_rec hz₇ (by simp) fun g₈ hz₈ k₈ => ?_
  replace hz₈ : IsZip g₈ z TI TO (rawInt T) := hz₈
  have up : ∀ q o, q ≠ z → g₅.get? q = some o → g₈.get? q = some o := fun q o n e => k₈.extBut _ _ n (k₇.extBut _ _ n (Heap.get?_push_of_some _ e))
  have hT₈ : g₈.get? T = some { cls := .type "tuple", data := .seq #[.str ⟨#[c]⟩ s.toks, y] } := k₈.extBut _ _ nz.symm (k₇.extBut _ _ nz.symm (hTe ▸ Heap.get?_push_size _ rfl))
  refine wpAny_pure ⟨_, rfl, wpAny_pure ?_⟩
  refine hQ s.toks T g₈ (s.toks + 1) ⟨hz₈, up _ _ D.a1 (to₅ _ _ D.a1 D.b1 D.c1 D.c2 hTI), ⟨_, _, up _ _ D.a2 hTO₅⟩, strIter_at h1₅ fun o e => up _ o D.a3 e, h2₅.at fun o e => up _ o D.a4 e, htp.at fun o e => up _ o D.a5 (to₅ _ o D.a5 D.b4 D.c4 D.c5 e)⟩
    ⟨_, hT₈, rfl, 0, rfl⟩ ⟨nz.symm, nTO.symm, n1.symm, n2.symm⟩ fun q o m1 m2 m3 m4 e => up _ _ m1 (to₅ q o m1 m2 m3 m4 e)

theorem zsEnd {z TI TO i1 i2 tp : Addr} {x : Str} {t : Tok} {ys : Array Value} {k : Nat} {Q : Option Value → Shared → Prop} (hh : A.handled = none) (D : Six z TI TO i1 i2 tp) (st : ZSt z TI TO i1 i2 tp x t ys .none k s.heap) (hx : x.cps[k]? = none)
    (hQ : ∀ h', (∀ b o, b ≠ z → b ≠ TO → b ≠ i1 → b ≠ i2 → s.heap.get? b = some o → h'.get? b = some o) → Q none { s with heap := h' }) : wpAny (model prog w) A (pyNext (.ref z)) Q E s := by
  obtain ⟨hz, hTI, ⟨a, b, hTO⟩, h1, h2, htp⟩ := st
  have hT : s.TypeIs (.ref z) "zip" := ⟨_, hz, rfl⟩
  unfold pyNext
  refine wpAny_bind (wpAny_attempt (wpAny_callSpecial?_slot (name := Str.ofString "__next__") hT F.slot_zip_next (wpAny_call_entry F.slot_zip_next hT F.entry_zip_next ?_ (F.args_zip_next_1 _))))
  show wpAny _ _ (field (.ref z) 2 >>= _) _ _ _
  refine wpAny_bind (wpAny_field hz rfl (x := .bool false) rfl ?_)
  show wpAny _ _ (field (.ref z) 3 >>= _) _ _ _
  refine wpAny_bind (wpAny_field hz rfl (x := .ref TI) rfl (wpAny_bind (wpAny_seqItems hTI rfl ?_)))
  show wpAny _ _ (Builtin.SmallTypes.ownedTupleIsFree (.ref z) >>= _) _ _ _
  unfold Builtin.SmallTypes.ownedTupleIsFree
  refine wpAny_bind (wpAny_bind (wpAny_field hz rfl (x := .none) rfl (wpAny_pure ?_)))
  simp only [if_true]
  refine wpAny_bind (wpAny_rule (wpAny_bind (wpAny_field hz rfl (x := .ref TO) rfl (wpAny_bind (wpAny_setField_rec hz (by simp) fun g₁ hz₁ k₁ => ?_)))))
  replace hz₁ : IsZip g₁ z TI TO .ellipsis := hz₁
  refine wpAny_bind ?_
  simp only [List.zipIdx_cons, List.zipIdx_nil, List.forIn_cons, List.forIn_nil]
  refine wpAny_bind (wpAny_bind (wpAny_onRaise ?_))
  show wpAny _ _ (Builtin.SmallTypes.nextOf (.ref i1) >>= _) _ _ _
  refine wpAny_bind (wpAny_nextOf_ascii_end hh (strIter_at h1 fun o e => k₁.extBut _ o D.a3 e) hx fun g₂ e k₂ he => ?_)
  obtain ⟨oe, hoe, hce⟩ := he
  have hz₂ : IsZip g₂ z TI TO .ellipsis := k₂ _ _ D.a3.symm hz₁
  have nez : e ≠ z := fun q => by subst q; rw [hz₂] at hoe; cases hoe; simp at hce
  refine wpAny_setField_rec hz₂ (by simp) fun g₃ _ k₃ => ?_
  refine wpAny_bind (wpAny_isInstance (T := "StopIteration") (b := true) ⟨oe, k₃.extBut _ _ nez hoe, hce⟩ isSubtype_stop ?_)
  exact wpAny_pure (hQ _ fun q o m1 _ m3 _ x => k₃.extBut _ _ m1 (k₂ _ _ m3 (k₁.extBut _ _ m1 x)))

theorem zipWalks (hh : A.handled = none) {z TI TO i1 i2 tp : Addr} (D : Six z TI TO i1 i2 tp) (x : Str) (t : Tok) (ys : Array Value) (hn : x.cps.size = ys.size) :
    WalksU prog w A z [z, TI, TO, i1, i2, tp] [z, TO, i1, i2] ys.size (fun i vals => ∃ c u y, x.cps[i]? = some c ∧ ys[i]? = some y ∧ vals = #[.str ⟨#[c]⟩ u, y])
      (fun i h => ZSt z TI TO i1 i2 tp x t ys .none i h) (fun i T h => ZSt z TI TO i1 i2 tp x t ys (rawInt T) (i + 1) h ∧ (T ≠ z ∧ T ≠ TO ∧ T ≠ i1 ∧ T ≠ i2)) where
  sub := fun c hc => by simp at hc ⊢; rcases hc with rfl | rfl | rfl | rfl <;> simp
  frame := fun i h h' st hk => by
    obtain ⟨hz, hTI, ⟨a, b, hTO⟩, h1, h2, htp⟩ := st
    exact ⟨hk z (by simp) _ hz, hk TI (by simp) _ hTI, ⟨a, b, hk TO (by simp) _ hTO⟩, strIter_at h1 fun o e => hk i1 (by simp) o e, h2.at fun o e => hk i2 (by simp) o e, htp.at fun o e => hk tp (by simp) o e⟩
  item := fun i s Q E hi st hQ => by
    have hx : x.cps[i]? = some x.cps[i] := Array.getElem?_eq_getElem (by omega)
    refine zsNext D st hx (Array.getElem?_eq_getElem hi) fun u T h' tk st' hT nT hk => ?_
    exact hQ T _ h' tk ⟨_, u, _, hx, Array.getElem?_eq_getElem hi, rfl⟩ hT ⟨st', nT⟩ fun b o hb e => hk b o (fun q => hb (by simp [q])) (fun q => hb (by simp [q])) (fun q => hb (by simp [q])) (fun q => hb (by simp [q])) e
  go := fun elts k pos i T s Q E hm hQ => by
    obtain ⟨⟨hz, hTI, ⟨a, b, hTO⟩, h1, h2, htp⟩, _⟩ := hm
    refine wpAny_letOwnedTupleGo_zip hz fun h' hz' hs' => hQ h' ⟨hz', hs'.extBut _ _ D.a1 hTI, ⟨a, b, hs'.extBut _ _ D.a2 hTO⟩, strIter_at h1 fun o e => hs'.extBut _ _ D.a3 e, h2.at fun o e => hs'.extBut _ _ D.a4 e, htp.at fun o e => hs'.extBut _ _ D.a5 e⟩
      fun b o hb e => hs'.extBut _ _ (fun q => hb (by simp [q])) e
  apart := fun i T h hm hT => by
    obtain ⟨_, t1, t2, t3, t4⟩ := hm
    simp at hT
    rcases hT with rfl | rfl | rfl | rfl
    · exact t1 rfl
    · exact t2 rfl
    · exact t3 rfl
    · exact t4 rfl
  done := fun s Q E st hQ => by
    refine zsEnd hh D st (Array.getElem?_eq_none (by omega)) fun h' hk => hQ h' s.toks fun b o hb e => hk b o (fun q => hb (by simp [q])) (fun q => hb (by simp [q])) (fun q => hb (by simp [q])) (fun q => hb (by simp [q])) e
  self := fun i s Q E st hQ => wpAny_pyIter_zip st.1 hQ
end
end Mine
namespace Mine
set_option maxRecDepth 100000
noncomputable abbrev zs1 (h : Heap) (x : Str) (t : Tok) : Heap := h.push { cls := .type "str_ascii_iterator", data := .fields #[.str x t, .int 0 0] }
noncomputable abbrev zs2 (h : Heap) (x : Str) (t : Tok) (tp : Addr) : Heap := (zs1 h x t).push { cls := .type "tuple_iterator", data := .fields #[.ref tp, .int 0 0] }
noncomputable abbrev zs3 (h : Heap) (x : Str) (t : Tok) (tp : Addr) : Heap := (zs2 h x t tp).push { cls := .type "tuple", data := .seq #[.ref h.objs.size, .ref (zs1 h x t).objs.size] }
noncomputable abbrev zs4 (h : Heap) (x : Str) (t : Tok) (tp : Addr) : Heap := (zs3 h x t tp).push { cls := .type "tuple", data := .seq #[.none, .none] }
noncomputable abbrev zs5 (h : Heap) (x : Str) (t : Tok) (tp : Addr) : Heap := (zs4 h x t tp).push { cls := .type "zip", data := .fields #[.none, .bool false, .bool false, .ref (zs2 h x t tp).objs.size, .ref (zs3 h x t tp).objs.size] }
set_option maxHeartbeats 2000000 in
theorem zs_new (x : Str) (t : Tok) (tp : Addr) (ys : Array Value) (ha : x.cps.all (· < 128) = true) :
    Meets (Builtin.«zip.__new__» ⟨[.type "zip", .str x t, .ref tp], []⟩) (fun _ R s => s.heap.IsTuple tp ys ∧ R (.ok (.ret (.ref (zs4 s.heap x t tp).objs.size))) { s with heap := zs5 s.heap x t tp }) :=
  .of_wp fun prog w A R s h => by
    obtain ⟨hp, g, d, tk, os⟩ := s
    obtain ⟨hl, h⟩ := h
    have hsub := sub_zip
    have hL : Heap.IsTuple (Shared.heap ⟨hp.push { cls := .type "str_ascii_iterator", data := .fields #[.str x t, .int 0 0] }, g, d, tk, os⟩) tp ys := Heap.IsTuple.push hl _
    wp_walk using wpAny_pyIter_ascii ha, wpAny_pyIter_tuple hL
    exact ⟨_, rfl, h⟩
theorem call_zs {prog : Program} {w : World} {A : Around} {E : Value → Shared → Prop} {s : Shared} {x : Str} {t : Tok} {tp : Addr} {ys : Array Value} {Q : Value → Shared → Prop} (ha : x.cps.all (· < 128) = true) (hl : s.heap.IsTuple tp ys)
    (h : ∀ (h' : Heap) (z TI TO i1 i2 : Addr), Six z TI TO i1 i2 tp → ZSt z TI TO i1 i2 tp x t ys .none 0 h' → (∀ c ∈ [z, TI, TO, i1, i2], s.heap.objs.size ≤ c ∧ c < h'.objs.size) → (∀ c o, s.heap.get? c = some o → h'.get? c = some o) → Q (.ref z) { s with heap := h' }) :
    wpAny (model prog w) A (call (.type "zip") [.str x t, .ref tp]) Q E s := by
  refine callType_new F.called_zip (by decide) (F.typeCall_zip_2 _ _) (F.newCall_zip_2 _ _) (fun obj => F.args_object_init_3 obj _ _) F.entry_zip_new (zs_new x t tp ys ha) ⟨hl, ?_⟩
  have q1 : (zs1 s.heap x t).objs.size = s.heap.objs.size + 1 := Heap.size_push ..
  have q2 : (zs2 s.heap x t tp).objs.size = s.heap.objs.size + 2 := by rw [Heap.size_push, q1]
  have q3 : (zs3 s.heap x t tp).objs.size = s.heap.objs.size + 3 := by rw [Heap.size_push, q2]
  have q4 : (zs4 s.heap x t tp).objs.size = s.heap.objs.size + 4 := by rw [Heap.size_push, q3]
  have q5 : (zs5 s.heap x t tp).objs.size = s.heap.objs.size + 5 := by rw [Heap.size_push, q4]
  have g5 : (zs5 s.heap x t tp).get? (zs4 s.heap x t tp).objs.size = some _ := Heap.get?_push_size _ rfl
  have g4 : (zs5 s.heap x t tp).get? (zs3 s.heap x t tp).objs.size = some _ := Heap.get?_push_of_some _ (Heap.get?_push_size _ rfl)
  have g3 : (zs5 s.heap x t tp).get? (zs2 s.heap x t tp).objs.size = some _ := Heap.get?_push_of_some _ (Heap.get?_push_of_some _ (Heap.get?_push_size _ rfl))
  have g2 : (zs5 s.heap x t tp).get? (zs1 s.heap x t).objs.size = some _ := Heap.get?_push_of_some _ (Heap.get?_push_of_some _ (Heap.get?_push_of_some _ (Heap.get?_push_size _ rfl)))
  have g1 : (zs5 s.heap x t tp).get? s.heap.objs.size = some _ := Heap.get?_push_of_some _ (Heap.get?_push_of_some _ (Heap.get?_push_of_some _ (Heap.get?_push_of_some _ (Heap.get?_push_size _ rfl))))
  have up : ∀ c o, s.heap.get? c = some o → (zs5 s.heap x t tp).get? c = some o := fun c o e => Heap.get?_push_of_some _ (Heap.get?_push_of_some _ (Heap.get?_push_of_some _ (Heap.get?_push_of_some _ (Heap.get?_push_of_some _ e))))
  have hlt : tp < s.heap.objs.size := by obtain ⟨_, e, _⟩ := hl; exact Heap.lt_size e
  show _ ∧ _
  rw [q2, q3, q4] at g5
  rw [q1, q2] at g3
  rw [q3] at g4
  rw [q1] at g2
  rw [q4]
  generalize s.heap.objs.size = n at *
  refine ⟨⟨_, g5, rfl⟩, h _ (n + 4) (n + 2) (n + 3) n (n + 1) ?_ ⟨g5, g3, ⟨_, _, g4⟩, ⟨_, g1, rfl, rfl⟩, ⟨_, g2, rfl, rfl⟩, hl.at fun o e => up _ o e⟩ ?_ up⟩
  · have hlt' : @LT.lt Nat _ tp n := hlt
    constructor <;> (refine neN ?_; omega)
  · intro c hc
    simp only [List.mem_cons, List.not_mem_nil, or_false] at hc
    rw [q5]
    rcases hc with rfl | rfl | rfl | rfl | rfl <;> (constructor <;> first | (show @LE.le Nat _ _ _; omega) | (show @LT.lt Nat _ _ _; omega))
end Mine
namespace Mine
set_option maxRecDepth 100000
set_option maxHeartbeats 8000000
theorem fillK1 : (fun (_ : OpenLaw) (_ : Params → Frag) => True) PySem.Challenge.rw_oj0022_01 Mine.KF := by
  k_fill
  trivial
theorem c_hascc (n : Int) (t : Tok) : Calls 72 1 8 [.int n t] [] (RVal (.bool (decide (64 ≤ n ∧ n ≤ 95 ∨ 97 ≤ n ∧ n ≤ 122)))) := by
  (w_top off; intro w mean mg mb dp un gd cn cs a ccd cl outer A₀ base h₀ L m s Q E B F X N T hk hdp hun hret; refine wpAny_call ?_; k_dflt first | (refine' code_own ?k1 ?k2 ?k3 ?k4 ?k5 ?kA ?kF ?kK ?k6 ?k7 ?k8 ?k9 ?kB hret ?_ ?c2 ?c3 ?c4 ?c5; ((case kA | kF => exact rfl); (case kK => assumption); (case k1 | k2 | k3 | k4 | k5 => k_asm); (case k6 | k7 => k_is); (case k8 => exact room0 hdp)); (case k9 => first | exact BindsTo.of_eq rfl | exact binds_K (by k_in) rfl (by k_is) rfl rfl rfl); (case c5 => decide); (case kB => exact locs rfl); ((case c2 | c3 | c4 => exact rfl); k_whole; clear hret B F X N T); intro g' L' h' F' N' B' X' T'; (try dsimp only); (try k_lift B'); (try k_fold)) | (refine' code_ownC ?k1 ?k2 ?k3 ?k4 ?k5 ?kA ?kF ?kK ?k6 ?k7 ?k8 ?k9 ?kB ?kD hret ?_ ?c2 ?c3 ?c4; ((case kA | kF => exact rfl); (case kK => assumption); (case k1 | k2 | k3 | k4 | k5 => k_asm); (case k6 | k7 => k_is); (case k8 => exact room0 hdp)); (case k9 => exact BindsTo.of_eq rfl); (case kB => exact rfl); (case kD => decide +kernel); ((case c2 | c3 | c4 => exact rfl); k_whole; clear hret B F X N T); intro g' L' h' tk' cells' F' N' Y' B' X' T' l1; (try k_lt l1); k_cells Y'; (try simp only [List.cons_append, List.nil_append] at N'); (try dsimp only); (try k_lift B'); (try k_fold)))
  (repeat' (first | (k_unfold; (try dsimp only)) | (k_end; wrow_close) | ((with_reducible show LeaveO ..); with_reducible ((k_dflt (refine' LeaveO.intro ?k1 ?k2 ?_; (case k1 => k_asm); (case k2 => k_asm); k_whole; (try dsimp only))))) | walk1 | (dsimp only; walk1) | (leave1; walk_say "STEP leave1"; try dsimp only) | fail "no step"); (all_goals (try k_data)))
  all_goals (refine RVal.bool ?_; simp only [decide_eq_decide]; omega)
theorem c_isgreat (n : Int) (t : Tok) : Calls 79 1 8 [.int n t] [] (RVal (.bool (decide (65 ≤ n ∧ n ≤ 90)))) := by
  (w_top off; intro w mean mg mb dp un gd cn cs a ccd cl outer A₀ base h₀ L m s Q E B F X N T hk hdp hun hret; refine wpAny_call ?_; k_dflt first | (refine' code_own ?k1 ?k2 ?k3 ?k4 ?k5 ?kA ?kF ?kK ?k6 ?k7 ?k8 ?k9 ?kB hret ?_ ?c2 ?c3 ?c4 ?c5; ((case kA | kF => exact rfl); (case kK => assumption); (case k1 | k2 | k3 | k4 | k5 => k_asm); (case k6 | k7 => k_is); (case k8 => exact room0 hdp)); (case k9 => first | exact BindsTo.of_eq rfl | exact binds_K (by k_in) rfl (by k_is) rfl rfl rfl); (case c5 => decide); (case kB => exact locs rfl); ((case c2 | c3 | c4 => exact rfl); k_whole; clear hret B F X N T); intro g' L' h' F' N' B' X' T'; (try dsimp only); (try k_lift B'); (try k_fold)) | (refine' code_ownC ?k1 ?k2 ?k3 ?k4 ?k5 ?kA ?kF ?kK ?k6 ?k7 ?k8 ?k9 ?kB ?kD hret ?_ ?c2 ?c3 ?c4; ((case kA | kF => exact rfl); (case kK => assumption); (case k1 | k2 | k3 | k4 | k5 => k_asm); (case k6 | k7 => k_is); (case k8 => exact room0 hdp)); (case k9 => exact BindsTo.of_eq rfl); (case kB => exact rfl); (case kD => decide +kernel); ((case c2 | c3 | c4 => exact rfl); k_whole; clear hret B F X N T); intro g' L' h' tk' cells' F' N' Y' B' X' T' l1; (try k_lt l1); k_cells Y'; (try simp only [List.cons_append, List.nil_append] at N'); (try dsimp only); (try k_lift B'); (try k_fold)))
  (repeat' (first | (k_unfold; (try dsimp only)) | (k_end; wrow_close) | ((with_reducible show LeaveO ..); with_reducible ((k_dflt (refine' LeaveO.intro ?k1 ?k2 ?_; (case k1 => k_asm); (case k2 => k_asm); k_whole; (try dsimp only))))) | walk1 | (dsimp only; walk1) | (leave1; walk_say "STEP leave1"; try dsimp only) | fail "no step"); (all_goals (try k_data)))
  all_goals (refine RVal.bool ?_; simp only [decide_eq_decide]; omega)
theorem c_codeof (n : Int) (t : Tok) : Calls 41 1 8 [.int n t] [] (RInt (n % 4194304)) := by
  (w_top off; intro w mean mg mb dp un gd cn cs a ccd cl outer A₀ base h₀ L m s Q E B F X N T hk hdp hun hret; refine wpAny_call ?_; k_dflt first | (refine' code_own ?k1 ?k2 ?k3 ?k4 ?k5 ?kA ?kF ?kK ?k6 ?k7 ?k8 ?k9 ?kB hret ?_ ?c2 ?c3 ?c4 ?c5; ((case kA | kF => exact rfl); (case kK => assumption); (case k1 | k2 | k3 | k4 | k5 => k_asm); (case k6 | k7 => k_is); (case k8 => exact room0 hdp)); (case k9 => first | exact BindsTo.of_eq rfl | exact binds_K (by k_in) rfl (by k_is) rfl rfl rfl); (case c5 => decide); (case kB => exact locs rfl); ((case c2 | c3 | c4 => exact rfl); k_whole; clear hret B F X N T); intro g' L' h' F' N' B' X' T'; (try dsimp only); (try k_lift B'); (try k_fold)) | (refine' code_ownC ?k1 ?k2 ?k3 ?k4 ?k5 ?kA ?kF ?kK ?k6 ?k7 ?k8 ?k9 ?kB ?kD hret ?_ ?c2 ?c3 ?c4; ((case kA | kF => exact rfl); (case kK => assumption); (case k1 | k2 | k3 | k4 | k5 => k_asm); (case k6 | k7 => k_is); (case k8 => exact room0 hdp)); (case k9 => exact BindsTo.of_eq rfl); (case kB => exact rfl); (case kD => decide +kernel); ((case c2 | c3 | c4 => exact rfl); k_whole; clear hret B F X N T); intro g' L' h' tk' cells' F' N' Y' B' X' T' l1; (try k_lt l1); k_cells Y'; (try simp only [List.cons_append, List.nil_append] at N'); (try dsimp only); (try k_lift B'); (try k_fold)))
  (repeat' (first | (k_unfold; (try dsimp only)) | (k_end; wrow_close) | ((with_reducible show LeaveO ..); with_reducible ((k_dflt (refine' LeaveO.intro ?k1 ?k2 ?_; (case k1 => k_asm); (case k2 => k_asm); k_whole; (try dsimp only))))) | walk1 | (dsimp only; walk1) | (leave1; walk_say "STEP leave1"; try dsimp only) | fail "no step"); (all_goals (try k_data)))
  all_goals (refine RInt.mk ?_; first | rfl | (rw [Int.fmod_eq_emod_of_nonneg _ (by decide)]))
theorem c_bitsof (n : Int) (t : Tok) : Calls 48 1 8 [.int n t] [] (RInt (n - n % 4194304)) := by
  (w_top off; intro w mean mg mb dp un gd cn cs a ccd cl outer A₀ base h₀ L m s Q E B F X N T hk hdp hun hret; refine wpAny_call ?_; k_dflt first | (refine' code_own ?k1 ?k2 ?k3 ?k4 ?k5 ?kA ?kF ?kK ?k6 ?k7 ?k8 ?k9 ?kB hret ?_ ?c2 ?c3 ?c4 ?c5; ((case kA | kF => exact rfl); (case kK => assumption); (case k1 | k2 | k3 | k4 | k5 => k_asm); (case k6 | k7 => k_is); (case k8 => exact room0 hdp)); (case k9 => first | exact BindsTo.of_eq rfl | exact binds_K (by k_in) rfl (by k_is) rfl rfl rfl); (case c5 => decide); (case kB => exact locs rfl); ((case c2 | c3 | c4 => exact rfl); k_whole; clear hret B F X N T); intro g' L' h' F' N' B' X' T'; (try dsimp only); (try k_lift B'); (try k_fold)) | (refine' code_ownC ?k1 ?k2 ?k3 ?k4 ?k5 ?kA ?kF ?kK ?k6 ?k7 ?k8 ?k9 ?kB ?kD hret ?_ ?c2 ?c3 ?c4; ((case kA | kF => exact rfl); (case kK => assumption); (case k1 | k2 | k3 | k4 | k5 => k_asm); (case k6 | k7 => k_is); (case k8 => exact room0 hdp)); (case k9 => exact BindsTo.of_eq rfl); (case kB => exact rfl); (case kD => decide +kernel); ((case c2 | c3 | c4 => exact rfl); k_whole; clear hret B F X N T); intro g' L' h' tk' cells' F' N' Y' B' X' T' l1; (try k_lt l1); k_cells Y'; (try simp only [List.cons_append, List.nil_append] at N'); (try dsimp only); (try k_lift B'); (try k_fold)))
  (repeat' (first | (k_unfold; (try dsimp only)) | (k_end; wrow_close) | ((with_reducible show LeaveO ..); with_reducible ((k_dflt (refine' LeaveO.intro ?k1 ?k2 ?_; (case k1 => k_asm); (case k2 => k_asm); k_whole; (try dsimp only))))) | walk1 | (dsimp only; walk1) | (leave1; walk_say "STEP leave1"; try dsimp only) | fail "no step"); (all_goals (try k_data)))
  all_goals (refine RInt.mk ?_; first | rfl | (rw [Int.fmod_eq_emod_of_nonneg _ (by decide)]))
theorem c_isctl (n : Int) (t : Tok) : Calls 107 1 8 [.int n t] [] (RVal (.bool (decide (n < 32)))) := by
  (w_top off; intro w mean mg mb dp un gd cn cs a ccd cl outer A₀ base h₀ L m s Q E B F X N T hk hdp hun hret; refine wpAny_call ?_; k_dflt first | (refine' code_own ?k1 ?k2 ?k3 ?k4 ?k5 ?kA ?kF ?kK ?k6 ?k7 ?k8 ?k9 ?kB hret ?_ ?c2 ?c3 ?c4 ?c5; ((case kA | kF => exact rfl); (case kK => assumption); (case k1 | k2 | k3 | k4 | k5 => k_asm); (case k6 | k7 => k_is); (case k8 => exact room0 hdp)); (case k9 => first | exact BindsTo.of_eq rfl | exact binds_K (by k_in) rfl (by k_is) rfl rfl rfl); (case c5 => decide); (case kB => exact locs rfl); ((case c2 | c3 | c4 => exact rfl); k_whole; clear hret B F X N T); intro g' L' h' F' N' B' X' T'; (try dsimp only); (try k_lift B'); (try k_fold)) | (refine' code_ownC ?k1 ?k2 ?k3 ?k4 ?k5 ?kA ?kF ?kK ?k6 ?k7 ?k8 ?k9 ?kB ?kD hret ?_ ?c2 ?c3 ?c4; ((case kA | kF => exact rfl); (case kK => assumption); (case k1 | k2 | k3 | k4 | k5 => k_asm); (case k6 | k7 => k_is); (case k8 => exact room0 hdp)); (case k9 => exact BindsTo.of_eq rfl); (case kB => exact rfl); (case kD => decide +kernel); ((case c2 | c3 | c4 => exact rfl); k_whole; clear hret B F X N T); intro g' L' h' tk' cells' F' N' Y' B' X' T' l1; (try k_lt l1); k_cells Y'; (try simp only [List.cons_append, List.nil_append] at N'); (try dsimp only); (try k_lift B'); (try k_fold)))
  (repeat' (first | (k_unfold; (try dsimp only)) | (k_end; wrow_close) | ((with_reducible show LeaveO ..); with_reducible ((k_dflt (refine' LeaveO.intro ?k1 ?k2 ?_; (case k1 => k_asm); (case k2 => k_asm); k_whole; (try dsimp only))))) | walk1 | (dsimp only; walk1) | (leave1; walk_say "STEP leave1"; try dsimp only) | fail "no step"); (all_goals (try k_data)))
  all_goals (exact RVal.mk)
theorem c_issignI (n : Int) (t : Tok) : Calls 22 1 8 [.int n t] [] (RVal (.bool true)) := by
  (w_top off; intro w mean mg mb dp un gd cn cs a ccd cl outer A₀ base h₀ L m s Q E B F X N T hk hdp hun hret; refine wpAny_call ?_; k_dflt first | (refine' code_own ?k1 ?k2 ?k3 ?k4 ?k5 ?kA ?kF ?kK ?k6 ?k7 ?k8 ?k9 ?kB hret ?_ ?c2 ?c3 ?c4 ?c5; ((case kA | kF => exact rfl); (case kK => assumption); (case k1 | k2 | k3 | k4 | k5 => k_asm); (case k6 | k7 => k_is); (case k8 => exact room0 hdp)); (case k9 => first | exact BindsTo.of_eq rfl | exact binds_K (by k_in) rfl (by k_is) rfl rfl rfl); (case c5 => decide); (case kB => exact locs rfl); ((case c2 | c3 | c4 => exact rfl); k_whole; clear hret B F X N T); intro g' L' h' F' N' B' X' T'; (try dsimp only); (try k_lift B'); (try k_fold)) | (refine' code_ownC ?k1 ?k2 ?k3 ?k4 ?k5 ?kA ?kF ?kK ?k6 ?k7 ?k8 ?k9 ?kB ?kD hret ?_ ?c2 ?c3 ?c4; ((case kA | kF => exact rfl); (case kK => assumption); (case k1 | k2 | k3 | k4 | k5 => k_asm); (case k6 | k7 => k_is); (case k8 => exact room0 hdp)); (case k9 => exact BindsTo.of_eq rfl); (case kB => exact rfl); (case kD => decide +kernel); ((case c2 | c3 | c4 => exact rfl); k_whole; clear hret B F X N T); intro g' L' h' tk' cells' F' N' Y' B' X' T' l1; (try k_lt l1); k_cells Y'; (try simp only [List.cons_append, List.nil_append] at N'); (try dsimp only); (try k_lift B'); (try k_fold)))
  (repeat' (first | (k_unfold; (try dsimp only)) | (k_end; wrow_close) | ((with_reducible show LeaveO ..); with_reducible ((k_dflt (refine' LeaveO.intro ?k1 ?k2 ?_; (case k1 => k_asm); (case k2 => k_asm); k_whole; (try dsimp only))))) | walk1 | (dsimp only; walk1) | (leave1; walk_say "STEP leave1"; try dsimp only) | fail "no step"); (all_goals (try k_data)))
  all_goals (exact RVal.mk)
theorem c_issignS (n : Str) (t : Tok) : Calls 22 1 8 [.str n t] [] (RVal (.bool false)) := by
  (w_top off; intro w mean mg mb dp un gd cn cs a ccd cl outer A₀ base h₀ L m s Q E B F X N T hk hdp hun hret; refine wpAny_call ?_; k_dflt first | (refine' code_own ?k1 ?k2 ?k3 ?k4 ?k5 ?kA ?kF ?kK ?k6 ?k7 ?k8 ?k9 ?kB hret ?_ ?c2 ?c3 ?c4 ?c5; ((case kA | kF => exact rfl); (case kK => assumption); (case k1 | k2 | k3 | k4 | k5 => k_asm); (case k6 | k7 => k_is); (case k8 => exact room0 hdp)); (case k9 => first | exact BindsTo.of_eq rfl | exact binds_K (by k_in) rfl (by k_is) rfl rfl rfl); (case c5 => decide); (case kB => exact locs rfl); ((case c2 | c3 | c4 => exact rfl); k_whole; clear hret B F X N T); intro g' L' h' F' N' B' X' T'; (try dsimp only); (try k_lift B'); (try k_fold)) | (refine' code_ownC ?k1 ?k2 ?k3 ?k4 ?k5 ?kA ?kF ?kK ?k6 ?k7 ?k8 ?k9 ?kB ?kD hret ?_ ?c2 ?c3 ?c4; ((case kA | kF => exact rfl); (case kK => assumption); (case k1 | k2 | k3 | k4 | k5 => k_asm); (case k6 | k7 => k_is); (case k8 => exact room0 hdp)); (case k9 => exact BindsTo.of_eq rfl); (case kB => exact rfl); (case kD => decide +kernel); ((case c2 | c3 | c4 => exact rfl); k_whole; clear hret B F X N T); intro g' L' h' tk' cells' F' N' Y' B' X' T' l1; (try k_lt l1); k_cells Y'; (try simp only [List.cons_append, List.nil_append] at N'); (try dsimp only); (try k_lift B'); (try k_fold)))
  (repeat' (first | (k_unfold; (try dsimp only)) | (k_end; wrow_close) | ((with_reducible show LeaveO ..); with_reducible ((k_dflt (refine' LeaveO.intro ?k1 ?k2 ?_; (case k1 => k_asm); (case k2 => k_asm); k_whole; (try dsimp only))))) | walk1 | (dsimp only; walk1) | (leave1; walk_say "STEP leave1"; try dsimp only) | fail "no step"); (all_goals (try k_data)))
  all_goals (exact RVal.mk)
theorem c_ctlletter (n : Int) (t : Tok) (h : 0 ≤ n) (h2 : n < 32) : Calls 135 1 8 [.int n t] [] (RStr ⟨#[(if 1 ≤ n ∧ n ≤ 26 then n + 96 else n + 64).toNat]⟩) := by
  (w_top off; intro w mean mg mb dp un gd cn cs a ccd cl outer A₀ base h₀ L m s Q E B F X N T hk hdp hun hret; refine wpAny_call ?_; k_dflt first | (refine' code_own ?k1 ?k2 ?k3 ?k4 ?k5 ?kA ?kF ?kK ?k6 ?k7 ?k8 ?k9 ?kB hret ?_ ?c2 ?c3 ?c4 ?c5; ((case kA | kF => exact rfl); (case kK => assumption); (case k1 | k2 | k3 | k4 | k5 => k_asm); (case k6 | k7 => k_is); (case k8 => exact room0 hdp)); (case k9 => first | exact BindsTo.of_eq rfl | exact binds_K (by k_in) rfl (by k_is) rfl rfl rfl); (case c5 => decide); (case kB => exact locs rfl); ((case c2 | c3 | c4 => exact rfl); k_whole; clear hret B F X N T); intro g' L' h' F' N' B' X' T'; (try dsimp only); (try k_lift B'); (try k_fold)) | (refine' code_ownC ?k1 ?k2 ?k3 ?k4 ?k5 ?kA ?kF ?kK ?k6 ?k7 ?k8 ?k9 ?kB ?kD hret ?_ ?c2 ?c3 ?c4; ((case kA | kF => exact rfl); (case kK => assumption); (case k1 | k2 | k3 | k4 | k5 => k_asm); (case k6 | k7 => k_is); (case k8 => exact room0 hdp)); (case k9 => exact BindsTo.of_eq rfl); (case kB => exact rfl); (case kD => decide +kernel); ((case c2 | c3 | c4 => exact rfl); k_whole; clear hret B F X N T); intro g' L' h' tk' cells' F' N' Y' B' X' T' l1; (try k_lt l1); k_cells Y'; (try simp only [List.cons_append, List.nil_append] at N'); (try dsimp only); (try k_lift B'); (try k_fold)))
  (repeat' (first | (k_unfold; (try dsimp only)) | (k_end; wrow_close) | ((with_reducible show LeaveO ..); with_reducible ((k_dflt (refine' LeaveO.intro ?k1 ?k2 ?_; (case k1 => k_asm); (case k2 => k_asm); k_whole; (try dsimp only))))) | walk1 | (dsimp only; walk1) | (leave1; walk_say "STEP leave1"; try dsimp only) | fail "no step"); (all_goals (try k_data)))
  all_goals (refine RStr.mk ?_; (first | rw [if_pos (by omega)] | rw [if_neg (by omega)]))
theorem c_codetext (n : Int) (t : Tok) (h : 0 ≤ n) (h2 : n < 1114112) : Calls 142 1 8 [.int n t] [] (RStr (if n = 32 then "SPC" else if n = 127 then "DEL" else ⟨#[n.toNat]⟩)) := by
  (w_top off; intro w mean mg mb dp un gd cn cs a ccd cl outer A₀ base h₀ L m s Q E B F X N T hk hdp hun hret; refine wpAny_call ?_; k_dflt first | (refine' code_own ?k1 ?k2 ?k3 ?k4 ?k5 ?kA ?kF ?kK ?k6 ?k7 ?k8 ?k9 ?kB hret ?_ ?c2 ?c3 ?c4 ?c5; ((case kA | kF => exact rfl); (case kK => assumption); (case k1 | k2 | k3 | k4 | k5 => k_asm); (case k6 | k7 => k_is); (case k8 => exact room0 hdp)); (case k9 => first | exact BindsTo.of_eq rfl | exact binds_K (by k_in) rfl (by k_is) rfl rfl rfl); (case c5 => decide); (case kB => exact locs rfl); ((case c2 | c3 | c4 => exact rfl); k_whole; clear hret B F X N T); intro g' L' h' F' N' B' X' T'; (try dsimp only); (try k_lift B'); (try k_fold)) | (refine' code_ownC ?k1 ?k2 ?k3 ?k4 ?k5 ?kA ?kF ?kK ?k6 ?k7 ?k8 ?k9 ?kB ?kD hret ?_ ?c2 ?c3 ?c4; ((case kA | kF => exact rfl); (case kK => assumption); (case k1 | k2 | k3 | k4 | k5 => k_asm); (case k6 | k7 => k_is); (case k8 => exact room0 hdp)); (case k9 => exact BindsTo.of_eq rfl); (case kB => exact rfl); (case kD => decide +kernel); ((case c2 | c3 | c4 => exact rfl); k_whole; clear hret B F X N T); intro g' L' h' tk' cells' F' N' Y' B' X' T' l1; (try k_lt l1); k_cells Y'; (try simp only [List.cons_append, List.nil_append] at N'); (try dsimp only); (try k_lift B'); (try k_fold)))
  (repeat' (first | (k_unfold; (try dsimp only)) | (k_end; wrow_close) | ((with_reducible show LeaveO ..); with_reducible ((k_dflt (refine' LeaveO.intro ?k1 ?k2 ?_; (case k1 => k_asm); (case k2 => k_asm); k_whole; (try dsimp only))))) | walk1 | (dsimp only; walk1) | (leave1; walk_say "STEP leave1"; try dsimp only) | fail "no step"); (all_goals (try k_data)))
  all_goals (refine RStr.mk ?_; simp only [*, if_true, if_false, ne_eq, not_true, not_false_eq_true, reduceIte]; try decide)
end Mine
namespace Mine
set_option maxRecDepth 100000
set_option maxHeartbeats 8000000
theorem fillK11 : (fun (_ : OpenLaw) (_ : Params → Frag) => True) PySem.Challenge.rw_oj0022_01 Mine.KF := by
  k_fill
  trivial
/-- the pot at P, its cells at C -/
inductive Pot (P C : Addr) (own : List (Addr × Obj)) : Prop
  | mk (ne : @Ne Nat P C) (vs : List Value) (ns : List Int) (nn n2 : Nat) (a sd : Int) (ta ts : Tok) (e : own = [(P, listOf #[.ref C, .int a ta, .int sd ts] n2), (C, listOf vs.toArray nn)]) (hi : IntsAre vs ns) (hl : ns.length ≤ 48) (h0 : 0 ≤ a) (h2 : 0 ≤ sd) (h3 : sd < 70000)
/-- a draw -/
noncomputable def RDip (P C : Addr) (many : Int) (r : Value) (own' : List (Addr × Obj)) : Prop := ∃ x t, r = .int x t ∧ 0 ≤ x ∧ x < many ∧ Pot P C own'
theorem fmod_bound (x : Int) : 0 ≤ x.fmod 65537 ∧ x.fmod 65537 < 70000 := by rw [Int.fmod_eq_emod_of_nonneg _ (by decide)]; omega
theorem RDip.mk {P C : Addr} {many x : Int} {t : Tok} {vs : List Value} {ns : List Int} {nn n2 : Nat} {a sd : Int} {ta ts : Tok} (ne : (@Ne Nat P C)) (hm : 0 < many) (hi : IntsAre vs ns) (hl : ns.length ≤ 48) (h0 : 0 ≤ a) (h2 : 0 ≤ sd) (h3 : sd < 70000) :
  RDip P C many (.int (x.fmod many) t) [(P, listOf #[.ref C, .int a ta, .int sd ts] n2), (C, listOf vs.toArray nn)] :=
  ⟨_, _, rfl, by rw [Int.fmod_eq_emod_of_nonneg _ (Int.le_of_lt hm)]; exact Int.emod_nonneg _ (Int.ne_of_gt hm), by rw [Int.fmod_eq_emod_of_nonneg _ (Int.le_of_lt hm)]; exact Int.emod_lt_of_pos _ hm, ne, vs, ns, nn, n2, a, sd, ta, ts, rfl, hi, hl, h0, h2, h3⟩
theorem c_dip (P C : Addr) (own : List (Addr × Obj)) (many : Int) (t : Tok) (hP : Pot P C own) (hm : 0 < many) (hm2 : many < 1000) : Calls 197 1 8 [.ref P, .int many t] own (RDip P C many) := by
  obtain ⟨hPC, vs, ns, nn, n2, a, sd, ta, ts, rfl, hi, hlen, h0, h2, h3⟩ := hP
  (w_top off; intro w mean mg mb dp un gd cn cs a ccd cl outer A₀ base h₀ L m s Q E B F X N T hk hdp hun hret; refine wpAny_call ?_; k_dflt first | (refine' code_own ?k1 ?k2 ?k3 ?k4 ?k5 ?kA ?kF ?kK ?k6 ?k7 ?k8 ?k9 ?kB hret ?_ ?c2 ?c3 ?c4 ?c5; ((case kA | kF => exact rfl); (case kK => assumption); (case k1 | k2 | k3 | k4 | k5 => k_asm); (case k6 | k7 => k_is); (case k8 => exact room0 hdp)); (case k9 => first | exact BindsTo.of_eq rfl | exact binds_K (by k_in) rfl (by k_is) rfl rfl rfl); (case c5 => decide); (case kB => exact locs rfl); ((case c2 | c3 | c4 => exact rfl); k_whole; clear hret B F X N T); intro g' L' h' F' N' B' X' T'; (try dsimp only); (try k_lift B'); (try k_fold)) | (refine' code_ownC ?k1 ?k2 ?k3 ?k4 ?k5 ?kA ?kF ?kK ?k6 ?k7 ?k8 ?k9 ?kB ?kD hret ?_ ?c2 ?c3 ?c4; ((case kA | kF => exact rfl); (case kK => assumption); (case k1 | k2 | k3 | k4 | k5 => k_asm); (case k6 | k7 => k_is); (case k8 => exact room0 hdp)); (case k9 => exact BindsTo.of_eq rfl); (case kB => exact rfl); (case kD => decide +kernel); ((case c2 | c3 | c4 => exact rfl); k_whole; clear hret B F X N T); intro g' L' h' tk' cells' F' N' Y' B' X' T' l1; (try k_lt l1); k_cells Y'; (try simp only [List.cons_append, List.nil_append] at N'); (try dsimp only); (try k_lift B'); (try k_fold)))
  (repeat' (first | (k_unfold; (try dsimp only)) | (k_end; wrow_close) | ((with_reducible show LeaveO ..); with_reducible ((k_dflt (refine' LeaveO.intro ?k1 ?k2 ?_; (case k1 => k_asm); (case k2 => k_asm); k_whole; (try dsimp only))))) | walk1 | (dsimp only; walk1) | (leave1; walk_say "STEP leave1"; try dsimp only) | fail "no step"); (all_goals (try k_data)))
  · exact RDip.mk hPC hm hi hlen (by omega) h2 h3
  · exact RDip.mk hPC hm hi hlen (by omega) (fmod_bound _).1 (fmod_bound _).2
noncomputable abbrev tupO (vals : Array Value) : Obj := { cls := .type "tuple", data := .seq vals }
/-- the six letters, each with its bit -/
structure BitTups (tups : List (Addr × Array Value)) : Prop where
  len : tups.length = 6
  get : ∀ (i : Nat) (T : Addr) (vals : Array Value), tups[i]? = some (T, vals) → ∃ (c : Nat) (u w : Tok), vals = #[Value.str ⟨#[c]⟩ u, Value.int (Bof c) w] ∧ LET[i]? = some c
theorem BitTups.pair {tups : List (Addr × Array Value)} (h : BitTups tups) : ∀ t ∈ tups, ∃ x y, t.2 = #[x, y] := fun t ht => by
  obtain ⟨i, hi⟩ := List.mem_iff_getElem?.mp ht
  obtain ⟨c, u, w, e, _⟩ := h.get i t.1 t.2 hi
  exact ⟨_, _, e⟩
theorem BitTups.of (l : List ((Addr × Str × Int) × Tok × Tok)) (cs : List (Str × Int)) (hc : l.map (·.1.2) = cs) (hl : cs = LET.map fun c => ((⟨#[c]⟩ : Str), Bof c)) : BitTups (l.map fun q => (q.1.1, #[.str q.1.2.1 q.2.1, .int q.1.2.2 q.2.2])) := by
  subst hc
  refine ⟨?_, fun i T vals h => ?_⟩
  · have := congrArg List.length hl
    rw [List.length_map, List.length_map] at this
    rw [List.length_map, this]; rfl
  · have hi : (l.map (·.1.2))[i]? = (LET.map fun c => ((⟨#[c]⟩ : Str), Bof c))[i]? := by rw [hl]
    rw [List.getElem?_map] at h
    rw [List.getElem?_map, List.getElem?_map] at hi
    cases e : l[i]? with
    | none => rw [e] at h; cases h
    | some q =>
      rw [e] at h hi
      cases h
      cases e2 : LET[i]? with
      | none => rw [e2] at hi; cases hi
      | some c =>
        rw [e2] at hi
        have hq : q.1.2 = ((⟨#[c]⟩ : Str), Bof c) := Option.some.inj hi
        exact ⟨c, _, _, by rw [hq], rfl⟩
theorem BitTups.six (T1 T2 T3 T4 T5 T6 : Addr) (u1 w1 u2 w2 u3 w3 u4 w4 u5 w5 u6 w6 : Tok) : BitTups [(T1, #[.str (Str.ofString "A") u1, .int 4194304 w1]), (T2, #[.str (Str.ofString "C") u2, .int 67108864 w2]), (T3, #[.str (Str.ofString "H") u3, .int 16777216 w3]), (T4, #[.str (Str.ofString "M") u4, .int 134217728 w4]), (T5, #[.str (Str.ofString "S") u5, .int 33554432 w5]), (T6, #[.str (Str.ofString "s") u6, .int 8388608 w6])] :=
  BitTups.of [((T1, Str.ofString "A", 4194304), u1, w1), ((T2, Str.ofString "C", 67108864), u2, w2), ((T3, Str.ofString "H", 16777216), u3, w3), ((T4, Str.ofString "M", 134217728), u4, w4), ((T5, Str.ofString "S", 33554432), u5, w5), ((T6, Str.ofString "s", 8388608), u6, w6)]
    [(Str.ofString "A", 4194304), (Str.ofString "C", 67108864), (Str.ofString "H", 16777216), (Str.ofString "M", 134217728), (Str.ofString "S", 33554432), (Str.ofString "s", 8388608)] rfl (by decide +kernel)
noncomputable def RBits (r : Value) (own' : List (Addr × Obj)) : Prop := ∃ (l : Addr) (n : Nat) (tups : List (Addr × Array Value)), r = .ref l ∧ BitTups tups ∧ own' = (l, listOf (tups.map fun t => Value.ref t.1).toArray n) :: (tups.map fun t => (t.1, tupO t.2)).reverse
theorem c_bits : Calls 204 1 8 [] [] RBits := by
  (w_top off; intro w mean mg mb dp un gd cn cs a ccd cl outer A₀ base h₀ L m s Q E B F X N T hk hdp hun hret; refine wpAny_call ?_; k_dflt first | (refine' code_own ?k1 ?k2 ?k3 ?k4 ?k5 ?kA ?kF ?kK ?k6 ?k7 ?k8 ?k9 ?kB hret ?_ ?c2 ?c3 ?c4 ?c5; ((case kA | kF => exact rfl); (case kK => assumption); (case k1 | k2 | k3 | k4 | k5 => k_asm); (case k6 | k7 => k_is); (case k8 => exact room0 hdp)); (case k9 => first | exact BindsTo.of_eq rfl | exact binds_K (by k_in) rfl (by k_is) rfl rfl rfl); (case c5 => decide); (case kB => exact locs rfl); ((case c2 | c3 | c4 => exact rfl); k_whole; clear hret B F X N T); intro g' L' h' F' N' B' X' T'; (try dsimp only); (try k_lift B'); (try k_fold)) | (refine' code_ownC ?k1 ?k2 ?k3 ?k4 ?k5 ?kA ?kF ?kK ?k6 ?k7 ?k8 ?k9 ?kB ?kD hret ?_ ?c2 ?c3 ?c4; ((case kA | kF => exact rfl); (case kK => assumption); (case k1 | k2 | k3 | k4 | k5 => k_asm); (case k6 | k7 => k_is); (case k8 => exact room0 hdp)); (case k9 => exact BindsTo.of_eq rfl); (case kB => exact rfl); (case kD => decide +kernel); ((case c2 | c3 | c4 => exact rfl); k_whole; clear hret B F X N T); intro g' L' h' tk' cells' F' N' Y' B' X' T' l1; (try k_lt l1); k_cells Y'; (try simp only [List.cons_append, List.nil_append] at N'); (try dsimp only); (try k_lift B'); (try k_fold)))
  (repeat' (first | (k_unfold; (try dsimp only)) | (k_end; wrow_close) | ((with_reducible show LeaveO ..); with_reducible ((k_dflt (refine' LeaveO.intro ?k1 ?k2 ?_; (case k1 => k_asm); (case k2 => k_asm); k_whole; (try dsimp only))))) | walk1 | (dsimp only; walk1) | (leave1; walk_say "STEP leave1"; try dsimp only) | fail "no step"); (all_goals (try k_data)))
  exact ⟨_, _, _, rfl, BitTups.six _ _ _ _ _ _ _ _ _ _ _ _ _ _ _ _ _ _, rfl⟩
end Mine
namespace Mine
set_option maxRecDepth 100000
open PySem.Spec PySem.Calls LCg LCt
section
variable {prog : Program} {w : World} {A : Around} {E : Value → Shared → Prop} {s : Shared} {h₀ : Heap} {L : Addr} {m : Str → Option Value} {env : Env}
/-- where a list of pairs stands -/
noncomputable def LTSt (I ax : Addr) (items : Array Value) (tups : List (Addr × Array Value)) (i : Nat) (h : Heap) : Prop := h.IsListIter I ax i ∧ h.IsList ax items ∧ ∀ t ∈ tups, h.IsTuple t.1 t.2
theorem listTupWalks (hh : A.handled = none) (I ax : Addr) (hne : ax ≠ I) (items : Array Value) (tups : List (Addr × Array Value)) (hit : items = (tups.map fun t => Value.ref t.1).toArray) (hT : ∀ t ∈ tups, t.1 ≠ I) :
    WalksU prog w A I (I :: ax :: tups.map (·.1)) [I] tups.length (fun i vals => ∃ T, tups[i]? = some (T, vals)) (fun i h => LTSt I ax items tups i h) (fun i T h => LTSt I ax items tups (i + 1) h ∧ T ≠ I) where
  sub := fun c hc => by rw [List.mem_singleton.mp hc]; exact List.mem_cons_self
  frame := fun i h h' st hk => ⟨st.1.at fun o e => hk I List.mem_cons_self o e, st.2.1.at fun o e => hk ax (List.mem_cons_of_mem _ List.mem_cons_self) o e, fun t ht => (st.2.2 t ht).at fun o e => hk t.1 (List.mem_cons_of_mem _ (List.mem_cons_of_mem _ (List.mem_map_of_mem ht))) o e⟩
  item := fun i s Q E hi st hQ => by
    have hsz : items.size = tups.length := by rw [hit]; simp
    refine (Walks.list hh I ax hne items).item i s Q E (by omega) ⟨st.1, st.2.1⟩ fun v h' tk hP st' hk => ?_
    have ht : tups[i]? = some tups[i] := List.getElem?_eq_getElem hi
    have hv : v = .ref tups[i].1 := by
      have hP' : items[i]? = some v := hP
      rw [hit] at hP'
      simp [ht] at hP'
      exact hP'.symm
    subst hv
    have hmem : tups[i] ∈ tups := List.getElem_mem hi
    have up : ∀ t ∈ tups, h'.IsTuple t.1 t.2 := fun t htm => (st.2.2 t htm).at fun o e => hk t.1 o (by simpa using hT t htm) e
    exact hQ tups[i].1 tups[i].2 h' tk ⟨_, ht⟩ (up _ hmem) ⟨⟨st'.1, st'.2, up⟩, hT _ hmem⟩ hk
  go := fun elts k pos i T s Q E hm hQ => by
    exact letGo_listiter hm.1.1 (hQ s.heap hm.1 fun _ _ _ e => e)
  apart := fun i T h hm hT => hm.2 (List.mem_singleton.mp hT)
  done := fun s Q E st hQ => by
    have hsz : items.size = tups.length := by rw [hit]; simp
    refine (Walks.list hh I ax hne items).done s Q E ?_ hQ
    rw [hsz]
    exact ⟨st.1, st.2.1⟩
  self := fun i s Q E st hQ => wpAny_pyIter_listiter st.1 hQ

/-- a comprehension over a made list of made pairs -/
theorem srcPT_list {ct elt : Expr} {a b : Str} {scope : Scope} {cl : List (Str × Addr)} {Q : Value → Shared → Prop} {ax : Addr} {items : Array Value} {k : Nat} {tups : List (Addr × Array Value)} {nw₀ : List (Addr × Obj)} (J : Nat → List Value → List (Addr × Obj) → Prop)
    (hh : A.handled = none) (F : Fr h₀ L s.heap m) (N : News h₀ L s.heap ((ax, listOf items k) :: (tups.map (fun t => (t.1, tupO t.2)) ++ nw₀))) (hit : items = (tups.map fun t => Value.ref t.1).toArray)
    (hoff : ∀ p ∈ nw₀, p.1 ≠ ax ∧ ∀ t ∈ tups, p.1 ≠ t.1) (hn : tups.length ≤ sizeLine) (hpair : ∀ t ∈ tups, ∃ x y, t.2 = #[x, y]) (h0 : J 0 [] nw₀)
    (turn : ∀ fp g, PTurn prog w A h₀ L m env ct elt a b scope cl { s with heap := g } fp tups.length (fun i vals => ∃ T, tups[i]? = some (T, vals)) J)
    (fin : ∀ D h tk ys nw, Fr h₀ L h m → News h₀ L h ((D, lst ys) :: nw) → (∀ p ∈ nw, p.1 ≠ D) → J tups.length ys nw → Q (.ref D) { s with heap := h, toks := tk }) :
    SrcPT prog w A h₀ L m env ct elt a b scope cl Q E (.ref ax) s := by
  unfold SrcPT
  have hax := N _ List.mem_cons_self
  have hl : s.heap.IsList ax items := ⟨_, hax.1, rfl, k, rfl⟩
  have hlt : ax < s.heap.objs.size := Heap.lt_size hax.1
  have Nt : ∀ t ∈ tups, s.heap.get? t.1 = some (tupO t.2) ∧ t.1 ≠ L ∧ h₀.get? t.1 = none := fun t ht => N (t.1, tupO t.2) (List.mem_cons_of_mem _ (List.mem_append_left _ (List.mem_map_of_mem (f := fun t => (t.1, tupO t.2)) ht)))
  have N₀ : News h₀ L s.heap nw₀ := fun p hp => N p (List.mem_cons_of_mem _ (List.mem_append_right _ hp))
  have hTI : ∀ t ∈ tups, t.1 ≠ s.heap.objs.size := fun t ht => Nat.ne_of_lt (Heap.lt_size (Nt t ht).1)
  refine wpAny_pyIter_list hl ?_
  have up : ∀ b o, s.heap.get? b = some o → (s.heap.push { cls := .type "list_iterator", data := .fields #[.ref ax, .int 0 0] }).get? b = some o := fun b o e => Heap.get?_push_of_some _ e
  refine ⟨_, _, _, tups.length, _, _, _, nw₀, J, rfl, listTupWalks hh s.heap.objs.size ax (Nat.ne_of_lt hlt) items tups hit hTI, ?_, hh, hn, ?_, ?_, ?_, ?_, F.keeps up, N₀.grown up, ?_, h0, turn _ _, fun D h tk ys nw F' N' o hJ => fin D h tk ys nw F' N' o hJ⟩
  · rintro i vals ⟨T, hT⟩
    exact hpair _ (List.mem_of_getElem? hT)
  · exact ⟨⟨_, Heap.get?_push_size _ rfl, rfl, rfl⟩, hl.push _, fun t ht => ⟨_, up _ _ (Nt t ht).1, rfl, 0, rfl⟩⟩
  · intro c hc
    show c < (s.heap.push _).objs.size
    rw [Heap.size_push]
    rcases List.mem_cons.mp hc with rfl | hc
    · exact Nat.lt_succ_self _
    rcases List.mem_cons.mp hc with rfl | hc
    · exact Nat.lt_succ_of_lt hlt
    · obtain ⟨t, ht, rfl⟩ := List.mem_map.mp hc
      exact Nat.lt_succ_of_lt (Heap.lt_size (Nt t ht).1)
  · intro c hc
    rw [List.mem_singleton.mp hc]
    exact next_is_new F
  · intro hc
    rcases List.mem_cons.mp hc with e | hc
    · exact absurd F.ns.lt (e ▸ Nat.lt_irrefl _)
    rcases List.mem_cons.mp hc with e | hc
    · exact hax.2.1 e.symm
    · obtain ⟨t, ht, e⟩ := List.mem_map.mp hc
      exact (Nt t ht).2.1 e
  · intro p hp hc
    rcases List.mem_cons.mp hc with e | hc
    · exact absurd (Heap.lt_size (N₀ p hp).1) (e ▸ Nat.lt_irrefl _)
    rcases List.mem_cons.mp hc with e | hc
    · exact (hoff p hp).1 e
    · obtain ⟨t, ht, e⟩ := List.mem_map.mp hc
      exact (hoff p hp).2 t ht e.symm
end
/-- news, cut into what stays and what a call touches -/
inductive Splits : List (Addr × Obj) → List (Addr × Obj) → List (Addr × Obj) → Prop
  | nil {own} : Splits own [] own
  | app {l own} : Splits (l ++ own) l own
  | cons {p l r own} : Splits l r own → Splits (p :: l) (p :: r) own
theorem Splits.eq {l r own : List (Addr × Obj)} (h : Splits l r own) : l = r ++ own := by
  induction h with
  | nil => rfl
  | app => rfl
  | cons _ ih => rw [ih]; rfl
noncomputable def Off2 (P C : Addr) : List (Addr × Obj) → Prop
  | [] => True
  | p :: r => ((@Ne Nat p.1 P) ∧ (@Ne Nat p.1 C)) ∧ Off2 P C r
theorem Off2.mem {P C : Addr} : ∀ {l : List (Addr × Obj)}, Off2 P C l → ∀ p ∈ l, p.1 ≠ P ∧ p.1 ≠ C
  | [], _, _, h => nomatch h
  | _ :: _, x, p, h => by
    rcases List.mem_cons.mp h with rfl | h
    · exact x.1
    · exact Off2.mem x.2 p h
theorem Pot.at {P C : Addr} {own : List (Addr × Obj)} (h : Pot P C own) : ∀ p ∈ own, p.1 = P ∨ p.1 = C := by
  obtain ⟨_, vs, ns, nn, n2, a, sd, ta, ts, rfl, _, _, _, _, _⟩ := h
  intro p hp
  rcases List.mem_cons.mp hp with h | hp
  · exact .inl (h ▸ rfl)
  · exact .inr (List.mem_singleton.mp hp ▸ rfl)
theorem Pot.has {P C : Addr} {own : List (Addr × Obj)} (h : Pot P C own) : (∃ o, (P, o) ∈ own) ∧ ∃ o, (C, o) ∈ own := by
  obtain ⟨_, vs, ns, nn, n2, a, sd, ta, ts, rfl, _, _, _, _, _⟩ := h
  exact ⟨⟨_, List.mem_cons_self⟩, ⟨_, List.mem_cons_of_mem _ List.mem_cons_self⟩⟩
theorem Off2.of {P C : Addr} : ∀ {l : List (Addr × Obj)}, (∀ p ∈ l, p.1 ≠ P ∧ p.1 ≠ C) → Off2 P C l
  | [], _ => trivial
  | _ :: _, h => ⟨h _ List.mem_cons_self, Off2.of fun p hp => h p (List.mem_cons_of_mem _ hp)⟩
/-- a call that touches the pot -/
theorem Calls.useP {f : Addr} {d u : Nat} {vs : List Value} {own : List (Addr × Obj)} {R : Value → List (Addr × Obj) → Prop} {P C : Addr} (K : Calls f d u vs own R) (hP : Pot P C own)
    {w : World} {mean : ExcName → Option Value} {mg mb : Str → Option Value} {dp un : Nat} {gd : Option (List Code)} {cn : Str} {cs : Scope} {a : Addr} {ccd : Value} {cl : List (Str × Addr)} {outer : List Env} {A₀ : Around} {base h₀ : Heap} {L : Addr} {m : Str → Option Value} {s : Shared} {Q E : Value → Shared → Prop} {news rest : List (Addr × Obj)}
    (B : Below A₀ base outer h₀) (F : Fr h₀ L s.heap m) (X : (KF w.params).In h₀) (N : News h₀ L s.heap news) (T : Top hd.view_39 LL mean mg mb h₀) (hk : cs.kind = .function) (hdp : dp + d < recursionLimit) (hun : un + u < cLine)
    (hs : Splits news rest own) (hoff : Off2 P C rest)
    (ret : ∀ (r : Value) (own' : List (Addr × Obj)) (h' : Heap) (tk' : Nat), Fr h₀ L h' m → News h₀ L h' (rest ++ own') → (∀ p ∈ own', p.1 ∈ own.map (·.1) ∨ ∀ q ∈ rest, q.1 ≠ p.1) → R r own' → Q r { s with heap := h', toks := tk' }) :
    wpAny (model PG w) (ktrTop dp un gd cn cs L a ccd cl outer) (call (.ref f) vs) Q E s := by
  obtain rfl := hs.eq
  refine K.use B F X N T hk hdp hun rest (fun p h => List.mem_append_right _ h) (fun p h => List.mem_append_left _ h) (fun p hp q hq e => ?_) fun r own' h' tk' F' N' on hR => ret r own' h' tk' F' (fun p hp => N' p ?_) on hR
  · have o := hoff.mem p hp
    rcases hP.at q hq with h | h
    · exact o.1 (e.trans h)
    · exact o.2 (e.trans h)
  · rcases List.mem_append.mp hp with h | h
    · exact List.mem_append_right _ h
    · exact List.mem_append_left _ h
theorem RDip.useP {f : Addr} {d u : Nat} {vs : List Value} {own : List (Addr × Obj)} {P C : Addr} {many : Int} (K : Calls f d u vs own (RDip P C many)) (hP : Pot P C own) {w : World} {mean : ExcName → Option Value} {mg mb : Str → Option Value} {dp un : Nat} {gd : Option (List Code)} {cn : Str} {cs : Scope} {a : Addr} {ccd : Value} {cl : List (Str × Addr)} {outer : List Env} {A₀ : Around} {base h₀ : Heap} {L : Addr} {m : Str → Option Value} {s : Shared} {Q E : Value → Shared → Prop} {news rest : List (Addr × Obj)}
    (B : Below A₀ base outer h₀) (F : Fr h₀ L s.heap m) (X : (KF w.params).In h₀) (N : News h₀ L s.heap news) (T : Top hd.view_39 LL mean mg mb h₀) (hk : cs.kind = .function) (hdp : dp + d < recursionLimit) (hun : un + u < cLine)
    (hs : Splits news rest own) (hoff : Off2 P C rest)
    (ret : ∀ (x : Int) (t : Tok) (own' : List (Addr × Obj)) (h' : Heap) (tk' : Nat), 0 ≤ x → x < many → Pot P C own' → Fr h₀ L h' m → News h₀ L h' (rest ++ own') → Q (.int x t) { s with heap := h', toks := tk' }) : wpAny (model PG w) (ktrTop dp un gd cn cs L a ccd cl outer) (call (.ref f) vs) Q E s :=
  K.useP hP B F X N T hk hdp hun hs hoff fun _ own' h' tk' F' N' _ ⟨x, t, e, lo, hi, p⟩ => e ▸ ret x t own' h' tk' lo hi p F' N'
end Mine
namespace Mine
set_option maxRecDepth 100000
open LCg
theorem RBits.use {f : Addr} {d u : Nat} {vs : List Value} (C : Calls f d u vs [] RBits) {w : World} {mean : ExcName → Option Value} {mg mb : Str → Option Value} {dp un : Nat} {gd : Option (List Code)} {cn : Str} {cs : Scope} {a : Addr} {ccd : Value} {cl : List (Str × Addr)} {outer : List Env} {A₀ : Around} {base h₀ : Heap} {L : Addr} {m : Str → Option Value} {s : Shared} {Q E : Value → Shared → Prop} {news : List (Addr × Obj)}
    (B : Below A₀ base outer h₀) (F : Fr h₀ L s.heap m) (X : (KF w.params).In h₀) (N : News h₀ L s.heap news) (T : Top hd.view_39 LL mean mg mb h₀) (hk : cs.kind = .function) (hdp : dp + d < recursionLimit) (hun : un + u < cLine)
    (ret : ∀ (l : Addr) (n : Nat) (tups : List (Addr × Array Value)) (h' : Heap) (tk' : Nat), BitTups tups → (∀ p ∈ news, p.1 ≠ l ∧ ∀ t ∈ tups, p.1 ≠ t.1) → Fr h₀ L h' m →
      News h₀ L h' ((l, listOf (tups.map fun t => Value.ref t.1).toArray n) :: (tups.map (fun t => (t.1, tupO t.2)) ++ news)) → Q (.ref l) { s with heap := h', toks := tk' }) :
    wpAny (model PG w) (ktrTop dp un gd cn cs L a ccd cl outer) (call (.ref f) vs) Q E s := by
  refine C.use0 B F X N T hk hdp hun fun r own' h' tk' F' N' on hR => ?_
  obtain ⟨l, n, tups, rfl, hB, rfl⟩ := hR
  refine ret l n tups h' tk' hB (fun p hp => ⟨on _ List.mem_cons_self p hp, fun t ht => on (t.1, tupO t.2) (List.mem_cons_of_mem _ (List.mem_reverse.mpr (List.mem_map_of_mem (f := fun t => (t.1, tupO t.2)) ht))) p hp⟩) F' fun p hp => N' p ?_
  rcases List.mem_cons.mp hp with rfl | hp
  · exact List.mem_cons_self
  · refine List.mem_cons_of_mem _ ?_
    rcases List.mem_append.mp hp with hp | hp
    · exact List.mem_append_left _ (List.mem_reverse.mpr hp)
    · exact List.mem_append_right _ hp
end Mine
namespace Mine
set_option maxRecDepth 100000
open PySem.Spec PySem.Calls LCg LCt
section
variable {prog : Program} {w : World} {A : Around} {E : Value → Shared → Prop} {s : Shared} {env : Env} {h₀ : Heap} {elts : List Expr} {ek : Nat} {ep : Pos} {body : List Stmt} {Q : Flow → Shared → Prop}
/-- a loop whose turns change the frame alone -/
theorem turnsJ {target : Expr} {I : Addr} {fp wr : List Addr} {n : Nat} {P Md : Nat → Value → Heap → Prop} {St : Nat → Heap → Prop} {nw₀ : List (Addr × Obj)} {m₀ : Str → Option Value} (J : Nat → (Str → Option Value) → Prop)
    (W : KTurns prog w A target I fp wr n P Md St) (hLf : env.locals ∉ fp) (hwr : ∀ b ∈ wr, h₀.get? b = none) (hnw : ∀ p ∈ nw₀, p.1 ∉ wr) (hst : St 0 s.heap) (F : Fr h₀ env.locals s.heap m₀) (N : News h₀ env.locals s.heap nw₀) (hj : J 0 m₀)
    (turn : ∀ i v m₁ h tk own, P i v h → J i m₁ → Fr h₀ env.locals h m₁ → News h₀ env.locals h (own ++ nw₀) →
      wpAny (model prog w) A (assign target env v) (fun _ s₃ => wpAny (model prog w) A (execs body env) (InvPost h₀ env.locals (J (i + 1)) (own ++ nw₀) { s with heap := h, toks := tk } Q) E s₃) E { s with heap := h, toks := tk })
    (done : ∀ m₁ h tk, J n m₁ → Fr h₀ env.locals h m₁ → News h₀ env.locals h nw₀ → Q .next { s with heap := h, toks := tk }) :
    TurnsAt prog w A h₀ env target body Q E (.ref I) s := by
  refine ⟨I, fp, wr, n, _, _, _, m₀, nw₀, fun i m₁ news₁ => news₁ = nw₀ ∧ J i m₁, rfl, W, hLf, hwr, hnw, hst, F, N, ⟨rfl, hj⟩, ?_, ?_⟩
  · rintro i v m₁ news₁ h₁ tk₁ own hin hP ⟨rfl, hJ⟩ hoff' _ _ _ st F₁ N₁
    refine wpAny_mono (turn i v m₁ h₁ tk₁ own hP hJ F₁ N₁) (fun _ s₃ h₃ => wpAny_mono h₃ (fun f s₂ p => ?_) fun _ _ e => e) fun _ _ e => e
    have fin : InvEnd h₀ env.locals (J (i + 1)) (own ++ news₁) { s with heap := h₁, toks := tk₁ } s₂ → LoopStepU h₀ env.locals wr own (fun m₁ news₂ => news₂ = news₁ ∧ J (i + 1) m₁) { s with heap := h₁, toks := tk₁ } .next s₂ := by
      rintro ⟨h', tk, m', news', e, F', N', hn, hm⟩
      exact ⟨rfl, h', tk, m', news₁, e, F', fun p hp => N' p (hn p hp), hoff', rfl, hm⟩
    cases f with
    | ret v => exact .ret p
    | brk => exact .brk p
    | next => exact .next (fin p)
    | cont => exact .cont (fin p)
  · rintro h' tk m' news' F' N' _ ⟨rfl, hJ⟩
    exact done m' h' tk hJ F' N'
/-- a loop over a made list of made pairs: the frame alone turns -/
theorem iter_pairs {ax : Addr} {items : Array Value} {k : Nat} {tups : List (Addr × Array Value)} {nw₀ : List (Addr × Obj)} {m₀ : Str → Option Value} (J : Nat → (Str → Option Value) → Prop)
    (hh : A.handled = none) (F : Fr h₀ env.locals s.heap m₀) (N : News h₀ env.locals s.heap ((ax, listOf items k) :: (tups.map (fun t => (t.1, tupO t.2)) ++ nw₀))) (hit : items = (tups.map fun t => Value.ref t.1).toArray)
    (hj : J 0 m₀)
    (turn : ∀ i T T' vals m₁ h tk own, tups[i]? = some (T', vals) → J i m₁ → Fr h₀ env.locals h m₁ → News h₀ env.locals h (own ++ nw₀) → IsTup h T vals →
      wpAny (model prog w) A (assign (.Tuple elts ek ep) env (.ref T)) (fun _ s₃ => wpAny (model prog w) A (execs body env) (InvPost h₀ env.locals (J (i + 1)) (own ++ nw₀) { s with heap := h, toks := tk } Q) E s₃) E { s with heap := h, toks := tk })
    (done : ∀ m₁ h tk, J tups.length m₁ → Fr h₀ env.locals h m₁ → News h₀ env.locals h nw₀ → Q .next { s with heap := h, toks := tk }) :
    wpAny (model prog w) A (pyIter (.ref ax)) (fun it s₂ => TurnsAt prog w A h₀ env (.Tuple elts ek ep) body Q E it s₂) E s := by
  have hax := N _ List.mem_cons_self
  have hl : s.heap.IsList ax items := ⟨_, hax.1, rfl, k, rfl⟩
  have hlt : ax < s.heap.objs.size := Heap.lt_size hax.1
  have Nt : ∀ t ∈ tups, s.heap.get? t.1 = some (tupO t.2) ∧ t.1 ≠ env.locals ∧ h₀.get? t.1 = none := fun t ht => N (t.1, tupO t.2) (List.mem_cons_of_mem _ (List.mem_append_left _ (List.mem_map_of_mem (f := fun t => (t.1, tupO t.2)) ht)))
  have N₀ : News h₀ env.locals s.heap nw₀ := fun p hp => N p (List.mem_cons_of_mem _ (List.mem_append_right _ hp))
  have up : ∀ b o, s.heap.get? b = some o → (s.heap.push { cls := .type "list_iterator", data := .fields #[.ref ax, .int 0 0] }).get? b = some o := fun b o e => Heap.get?_push_of_some _ e
  refine wpAny_pyIter_list hl (turnsJ J (.ofWalksU (listTupWalks hh s.heap.objs.size ax (Nat.ne_of_lt hlt) items tups hit fun t ht => Nat.ne_of_lt (Heap.lt_size (Nt t ht).1))) (fun hc => ?_) (fun c hc => ?_) (fun p hp hc => ?_)
    ⟨⟨_, Heap.get?_push_size _ rfl, rfl, rfl⟩, hl.push _, fun t ht => ⟨_, up _ _ (Nt t ht).1, rfl, 0, rfl⟩⟩ (F.keeps up) (N₀.grown up) hj (fun i v m₁ h tk own hP hJ F₁ N₁ => ?_) done)
  · rcases List.mem_cons.mp hc with e | hc
    · exact absurd F.ns.lt (e ▸ Nat.lt_irrefl _)
    rcases List.mem_cons.mp hc with e | hc
    · exact hax.2.1 e.symm
    · obtain ⟨t, ht, e⟩ := List.mem_map.mp hc
      exact (Nt t ht).2.1 e
  · rw [List.mem_singleton.mp hc]
    exact next_is_new F
  · rw [List.mem_singleton] at hc
    exact absurd (Heap.lt_size (N₀ p hp).1) (hc ▸ Nat.lt_irrefl _)
  · obtain ⟨T, vals, rfl, ⟨T', hT'⟩, hTup⟩ := hP
    exact turn i T T' vals m₁ h tk own hT' hJ F₁ N₁ hTup
/-- a loop over a tuple of the text's own: the frame alone turns -/
theorem iter_tupJ {target : Expr} {ax : Addr} {vs : List Value} {nw₀ : List (Addr × Obj)} {m₀ : Str → Option Value} (J : Nat → (Str → Option Value) → Prop)
    (hh : A.handled = none) (F : Fr h₀ env.locals s.heap m₀) (N : News h₀ env.locals s.heap nw₀) (hg : h₀.IsTuple ax vs.toArray) (hj : J 0 m₀)
    (turn : ∀ i v m₁ h tk own, vs[i]? = some v → J i m₁ → Fr h₀ env.locals h m₁ → News h₀ env.locals h (own ++ nw₀) →
      wpAny (model prog w) A (assign target env v) (fun _ s₃ => wpAny (model prog w) A (execs body env) (InvPost h₀ env.locals (J (i + 1)) (own ++ nw₀) { s with heap := h, toks := tk } Q) E s₃) E { s with heap := h, toks := tk })
    (done : ∀ m₁ h tk, J vs.length m₁ → Fr h₀ env.locals h m₁ → News h₀ env.locals h nw₀ → Q .next { s with heap := h, toks := tk }) :
    wpAny (model prog w) A (pyIter (.ref ax)) (fun it s₂ => TurnsAt prog w A h₀ env target body Q E it s₂) E s := by
  have hl : s.heap.IsTuple ax vs.toArray := hg.at fun o e => F.keep _ o e
  obtain ⟨og, hog, _⟩ := id hg
  have hlt : ax < s.heap.objs.size := by obtain ⟨_, e, _⟩ := hl; exact Heap.lt_size e
  have W := KTurns.ofWalks (target := target) (Walks.tuple (prog := prog) (w := w) hh s.heap.objs.size ax (Nat.ne_of_lt hlt) vs.toArray) fun i v s Q E st q => letGo_tupleiter st.1 q
  rw [show vs.toArray.size = vs.length from by simp] at W
  refine wpAny_pyIter_tuple hl (turnsJ J W (fun hc => ?_) (fun c hc => ?_) (fun p hp hc => ?_)
    ⟨⟨_, Heap.get?_push_size _ rfl, rfl, rfl⟩, hl.at fun o e => Heap.get?_push_of_some _ e⟩ (F.push _) (fun p hp => ⟨Heap.get?_push_of_some _ (N p hp).1, (N p hp).2⟩) hj (fun i v m₁ h tk own hP hJ F₁ N₁ => ?_) done)
  · rcases List.mem_cons.mp hc with e | hc
    · exact absurd F.ns.lt (e ▸ Nat.lt_irrefl _)
    · have e : env.locals = ax := List.mem_singleton.mp hc
      exact absurd (Heap.lt_size hog) (Nat.not_lt.mpr (e ▸ F.above))
  · rw [List.mem_singleton.mp hc]
    exact next_is_new F
  · rw [List.mem_singleton] at hc
    exact absurd (Heap.lt_size (N p hp).1) (hc ▸ Nat.lt_irrefl _)
  · exact turn i v m₁ h tk own (by have hP' : vs.toArray[i]? = some v := hP; simpa using hP') hJ F₁ N₁
theorem setSelf {m : Str → Option Value} {a : Str} {v : Value} (h : m a = some v) : m = fun z => if z = a then some v else m z := by
  funext z
  by_cases e : z = a
  · subst e; simp [h]
  · simp [e]
end
section
variable {prog : Program} {w : World} {A : Around} {E : Value → Shared → Prop} {s : Shared} {l : List Nat} {t ui uj : Tok} {Q : Value → Shared → Prop} {value slice : PySem.Expr} {h₀ : Heap} {L : Addr} {m : Str → Option Value} {news : List (Addr × Obj)}
theorem sliceTwo {n : Nat} (hF : Fr h₀ L s.heap m) (hN : News h₀ L s.heap news) (hn : n ≤ l.length) (hsz : l.length ≤ 16777216) (h : ∀ h' t' k, Fr h₀ L h' m → News h₀ L h' news → Q (.str (S ((l.drop n).take 2)) t') { s with heap := h', toks := k })
    (hs : subscripted slice false (.str (S l) t) (.ref s.heap.objs.size) = operate [.ref s.heap.objs.size, .str (S l) t] (getItem (.str (S l) t) (.ref s.heap.objs.size)) := by with_unfolding_all rfl)
    (ht : ∀ r, letTemporaryGo value (.str (S l) t) r = pure () := by intro _; with_unfolding_all rfl) :
    wpAny (model prog w) A (subscriptTail value slice (.str (S l) t) (.ref s.heap.objs.size)) Q E { s with heap := s.heap.push { cls := .type "slice", data := .fields #[.int (n : Int) ui, .int ((n : Int) + 2) uj, .none] } } :=
  slice_strN_ss hF hN (fun h' t' k F' N' => by rw [slice_two hn]; exact h h' t' k F' N') hs ht (by rw [S_length, PySem.sizeLine_eq]; exact hsz)
theorem sliceFrom {n : Nat} (hF : Fr h₀ L s.heap m) (hN : News h₀ L s.heap news) (hn : n ≤ l.length) (hsz : l.length ≤ 16777216) (h : ∀ h' t' k, Fr h₀ L h' m → News h₀ L h' news → Q (.str (S (l.drop n)) t') { s with heap := h', toks := k })
    (hs : subscripted slice false (.str (S l) t) (.ref s.heap.objs.size) = operate [.ref s.heap.objs.size, .str (S l) t] (getItem (.str (S l) t) (.ref s.heap.objs.size)) := by with_unfolding_all rfl)
    (ht : ∀ r, letTemporaryGo value (.str (S l) t) r = pure () := by intro _; with_unfolding_all rfl) :
    wpAny (model prog w) A (subscriptTail value slice (.str (S l) t) (.ref s.heap.objs.size)) Q E { s with heap := s.heap.push { cls := .type "slice", data := .fields #[.int (n : Int) ui, .none, .none] } } :=
  slice_strN_sn hF hN (fun h' t' k F' N' => by rw [slice_from hn]; exact h h' t' k F' N') hs ht (by rw [S_length, PySem.sizeLine_eq]; exact hsz)
theorem sliceRest {n : Nat} {x : Str} (hF : Fr h₀ L s.heap m) (hN : News h₀ L s.heap news) (hx : S (l.drop n) = x) (hn : n ≤ l.length) (hsz : l.length ≤ 16777216) (h : ∀ h' t' k, Fr h₀ L h' m → News h₀ L h' news → Q (.str x t') { s with heap := h', toks := k })
    (hs : subscripted slice false (.str (S l) t) (.ref s.heap.objs.size) = operate [.ref s.heap.objs.size, .str (S l) t] (getItem (.str (S l) t) (.ref s.heap.objs.size)) := by with_unfolding_all rfl)
    (ht : ∀ r, letTemporaryGo value (.str (S l) t) r = pure () := by intro _; with_unfolding_all rfl) :
    wpAny (model prog w) A (subscriptTail value slice (.str (S l) t) (.ref s.heap.objs.size)) Q E { s with heap := s.heap.push { cls := .type "slice", data := .fields #[.int (n : Int) ui, .none, .none] } } :=
  sliceFrom hF hN hn hsz (fun h' t' k F' N' => by rw [hx]; exact h h' t' k F' N') hs ht
theorem sliceMid {a b : Nat} (hF : Fr h₀ L s.heap m) (hN : News h₀ L s.heap news) (hsz : l.length ≤ 16777000) (h : ∀ h' t' k, Fr h₀ L h' m → News h₀ L h' news → Q (.str (S l) t') { s with heap := h', toks := k })
    (hs : subscripted slice false (.str (S (a :: (l ++ [b]))) t) (.ref s.heap.objs.size) = operate [.ref s.heap.objs.size, .str (S (a :: (l ++ [b]))) t] (getItem (.str (S (a :: (l ++ [b]))) t) (.ref s.heap.objs.size)) := by with_unfolding_all rfl)
    (ht : ∀ r, letTemporaryGo value (.str (S (a :: (l ++ [b]))) t) r = pure () := by intro _; with_unfolding_all rfl) :
    wpAny (model prog w) A (subscriptTail value slice (.str (S (a :: (l ++ [b]))) t) (.ref s.heap.objs.size)) Q E { s with heap := s.heap.push { cls := .type "slice", data := .fields #[.int 1 ui, .int (-1) uj, .none] } } :=
  slice_strN_ss hF hN (fun h' t' k F' N' => by
    rw [slice_in_last (by simp)]
    have e : ((a :: (l ++ [b])).drop 1).take ((a :: (l ++ [b])).length - 2) = l := by
      rw [List.drop_succ_cons, List.drop_zero, List.length_cons, List.length_append, List.length_singleton]
      exact List.take_left' rfl
    rw [e]; exact h h' t' k F' N') hs ht (by rw [S_length, PySem.sizeLine_eq, List.length_cons, List.length_append, List.length_singleton]; omega)
theorem itemEnd {a b : Nat} {u : Tok} (hsz : l.length ≤ 16777000) (h : ∀ t' k, Q (.str ⟨#[b]⟩ t') { s with toks := k })
    (hs : subscripted slice false (.str (S (a :: (l ++ [b]))) t) (.int (-1) u) = operate [.str (S (a :: (l ++ [b]))) t, .int (-1) u] (getItem (.str (S (a :: (l ++ [b]))) t) (.int (-1) u)) := by with_unfolding_all rfl)
    (ht : ∀ r, letTemporaryGo value (.str (S (a :: (l ++ [b]))) t) r = pure () := by intro _; with_unfolding_all rfl) : wpAny (model prog w) A (subscriptTail value slice (.str (S (a :: (l ++ [b]))) t) (.int (-1) u)) Q E s := by
  have hla : (a :: (l ++ [b])).getLast? = some b := by rw [List.getLast?_cons]; simp
  have hl2 : (a :: (l ++ [b])).length = l.length + 2 := by simp
  exact item_str (by decide) (by rw [S_length]; omega) (by rw [S_length]; omega) (fun _ => by rw [item_last hla]; exact h _ _) hs ht
end
end Mine
namespace Mine
set_option maxRecDepth 100000
open PySem.Spec PySem.Calls LCg LCt
section
variable {prog : Program} {w : World} {A : Around} {E : Value → Shared → Prop} {s : Shared} {env : Env} {h₀ : Heap} {x : Str} {elts : List Expr} {ek : Nat} {ep : Pos} {body : List Stmt} {Q : Flow → Shared → Prop}
/-- a loop over enumerate of a made list: the frame alone turns -/
theorem iter_enum {l : Addr} {ys : List Value} {k : Nat} {nw₀ : List (Addr × Obj)} {m₀ : Str → Option Value} (J : Nat → (Str → Option Value) → Prop)
    (hh : A.handled = none) (F : Fr h₀ env.locals s.heap m₀) (N : News h₀ env.locals s.heap nw₀) (hm : (l, listOf ys.toArray k) ∈ nw₀) (hj : J 0 m₀)
    (turn : ∀ i T v u m₁ h tk own, ys[i]? = some v → J i m₁ → Fr h₀ env.locals h m₁ → News h₀ env.locals h (own ++ nw₀) → IsTup h T #[.int (i : Int) u, v] →
      wpAny (model prog w) A (assign (.Tuple elts ek ep) env (.ref T)) (fun _ s₃ => wpAny (model prog w) A (execs body env) (InvPost h₀ env.locals (J (i + 1)) (own ++ nw₀) { s with heap := h, toks := tk } Q) E s₃) E { s with heap := h, toks := tk })
    (done : ∀ m₁ h tk, J ys.length m₁ → Fr h₀ env.locals h m₁ → News h₀ env.locals h nw₀ → Q .next { s with heap := h, toks := tk }) :
    wpAny (model prog w) A (call (.type "enumerate") [.ref l]) (fun xv s₁ => wpAny (model prog w) A (pyIter xv) (fun it s₂ => TurnsAt prog w A h₀ env (.Tuple elts ek ep) body Q E it s₂) E s₁) E s := by
  have hax := N _ hm
  have hl : s.heap.IsList l ys.toArray := ⟨_, hax.1, rfl, k, rfl⟩
  have hlt : l < s.heap.objs.size := Heap.lt_size hax.1
  have hLs : env.locals < s.heap.objs.size := F.ns.lt
  refine call_enumerate_list hl fun h' hE hI hsz hk => ?_
  have W := KTurns.ofWalksU (elts := elts) (k := ek) (pos := ep) (WalksT.enumerate (prog := prog) (w := w) hh (s.heap.objs.size + 1) s.heap.objs.size l (Nat.succ_ne_self _) (Nat.ne_of_lt (Nat.lt_succ_of_lt hlt)) (Nat.ne_of_lt hlt) ys.toArray).toU
  rw [show ys.toArray.size = ys.length from by simp] at W
  have new : ∀ b, s.heap.objs.size ≤ b → h₀.get? b = none := fun b hb => by
    cases e : h₀.get? b with
    | none => rfl
    | some o => exact absurd (Heap.lt_size (F.keep b o e)) (Nat.not_lt.mpr hb)
  refine wpAny_pyIter_enum hE (turnsJ (s := ⟨h', _, _, _, _⟩) J W (fun hc => ?_) (fun c hc => ?_) (fun p hp hc => ?_) ⟨⟨_, hE⟩, hI, hl.at fun o e => hk l o e⟩ (F.keeps hk) (N.grown hk) hj (fun i v m₁ h tk own hP hJ F₁ N₁ => ?_) done)
  · rcases List.mem_cons.mp hc with e | hc
    · exact absurd hLs (by rw [e]; exact Nat.not_lt.mpr (Nat.le_succ _))
    rcases List.mem_cons.mp hc with e | hc
    · exact absurd hLs (by rw [e]; exact Nat.lt_irrefl _)
    · exact hax.2.1 (List.mem_singleton.mp hc).symm
  · rcases List.mem_cons.mp hc with rfl | hc
    · exact new _ (Nat.le_succ _)
    · rw [List.mem_singleton.mp hc]; exact new _ (Nat.le_refl _)
  · have := Heap.lt_size (N p hp).1
    rcases List.mem_cons.mp hc with e | hc
    · rw [e] at this; exact absurd this (Nat.not_lt.mpr (Nat.le_succ _))
    · rw [List.mem_singleton.mp hc] at this; exact absurd this (Nat.lt_irrefl _)
  · obtain ⟨T, vals, rfl, ⟨t, y, hy, rfl⟩, hTup⟩ := hP
    exact turn i T y t m₁ h tk own (by simpa using hy) hJ F₁ N₁ hTup
/-- a turn's end -/
noncomputable def REnd (h₀ : Heap) (L I : Addr) (own : List (Addr × Obj)) (J : (Str → Option Value) → List (Addr × Obj) → Prop) (s₁ s₂ : Shared) : Prop :=
  ∃ h' tk m' news', s₂ = { s₁ with heap := h', toks := tk } ∧ Fr h₀ L h' m' ∧ News h₀ L h' (own ++ news') ∧ (∀ p ∈ news', p.1 ≠ I) ∧ J m' news'
noncomputable def RPost (h₀ : Heap) (L I : Addr) (own : List (Addr × Obj)) (J : (Str → Option Value) → List (Addr × Obj) → Prop) (s₁ : Shared) (Q : Flow → Shared → Prop) (f : Flow) (s₂ : Shared) : Prop :=
  match f with
  | .ret v => Q (.ret v) s₂
  | .brk => Q .next s₂
  | _ => REnd h₀ L I own J s₁ s₂
/-- a loop over a range: the frame and the ledger turn -/
theorem iter_rangeP {r : Addr} {a₀ b₀ : Int} {t₀ u₀ v₀ : Tok} {n : Nat} {m₀ : Str → Option Value} {news : List (Addr × Obj)} (J : Nat → (Str → Option Value) → List (Addr × Obj) → Prop)
    (hh : A.handled = none) (hr : IsRange s.heap r a₀ b₀ 1 t₀ u₀ v₀) (hsmall : Builtin.Range.small a₀ b₀ 1 = true) (hn : Builtin.Range.rangeSize a₀ b₀ 1 = (n : Int)) (F : Fr h₀ env.locals s.heap m₀) (N : News h₀ env.locals s.heap news) (hj : J 0 m₀ news)
    (turn : ∀ i t m₁ news₁ h tk own I, i < n → J i m₁ news₁ → (∀ p ∈ own, p.1 = I) → (∀ p ∈ news₁, p.1 ≠ I) → Fr h₀ env.locals h (fun y => if y = x then some (.int (a₀ + (i : Int)) t) else m₁ y) → News h₀ env.locals h (own ++ news₁) →
      wpAny (model prog w) A (execs body env) (RPost h₀ env.locals I own (J (i + 1)) { s with heap := h, toks := tk } Q) E { s with heap := h, toks := tk })
    (done : ∀ m₁ news₁ h tk, J n m₁ news₁ → Fr h₀ env.locals h m₁ → News h₀ env.locals h news₁ → Q .next { s with heap := h, toks := tk }) :
    wpAny (model prog w) A (pyIter (.ref r)) (fun it s₂ => LoopAtV prog w A h₀ env x body Q E it s₂) E s := by
  refine wpAny_pyIter_range hr hsmall ?_
  have W := range_walks (prog := prog) (w := w) (I := s.heap.objs.size) hh a₀ n
  refine loopAtV W ?_ ?_ ?_ (by show IsRangeIter _ _ _ _ _; rw [hn]; simpa using Heap.get?_push_size _ rfl) (F.push _) (fun p hp => ⟨Heap.get?_push_of_some _ (N p hp).1, (N p hp).2⟩) hj ?_ ?_
  · intro hm
    exact absurd F.ns.lt ((List.mem_singleton.mp hm) ▸ Nat.lt_irrefl _)
  · intro b hb
    rw [List.mem_singleton.mp hb]
    exact next_is_new F
  · intro p hp hI
    exact absurd (Heap.lt_size (N p hp).1) ((List.mem_singleton.mp hI) ▸ Nat.lt_irrefl _)
  · rintro i v m₁ news₁ hh' tk' own hin ⟨t, rfl⟩ hJ hoff hown F₁ N₁
    refine wpAny_mono (turn i t m₁ news₁ hh' tk' own s.heap.objs.size hin hJ (fun p hp => List.mem_singleton.mp (hown p hp)) (fun p hp e => hoff p hp (List.mem_singleton.mpr e)) F₁ N₁) (fun f s₂ p => ?_) fun _ _ e => e
    have fin : REnd h₀ env.locals s.heap.objs.size own (J (i + 1)) { s with heap := hh', toks := tk' } s₂ → LoopStepU h₀ env.locals [s.heap.objs.size] own (J (i + 1)) { s with heap := hh', toks := tk' } .next s₂ := by
      rintro ⟨h', tk, m', news', e, F', N', hn, hm⟩
      exact ⟨rfl, h', tk, m', news', e, F', N', fun p hp q => hn p hp (List.mem_singleton.mp q), hm⟩
    cases f with
    | ret v => exact .ret p
    | brk => exact .brk p
    | next => exact .next (fin p)
    | cont => exact .cont (fin p)
  · rintro h' tk m' news' F' N' hJ
    exact done m' news' h' tk hJ F' N'
/-- a loop over a range: the frame alone turns -/
theorem iter_rangeF {r : Addr} {a₀ b₀ : Int} {t₀ u₀ v₀ : Tok} {n : Nat} {m₀ : Str → Option Value} {news : List (Addr × Obj)} (J : Nat → (Str → Option Value) → Prop)
    (hh : A.handled = none) (hr : IsRange s.heap r a₀ b₀ 1 t₀ u₀ v₀) (hsmall : Builtin.Range.small a₀ b₀ 1 = true) (hn : Builtin.Range.rangeSize a₀ b₀ 1 = (n : Int)) (F : Fr h₀ env.locals s.heap m₀) (N : News h₀ env.locals s.heap news) (hj : J 0 m₀)
    (turn : ∀ i t m₁ h tk own, i < n → J i m₁ → Fr h₀ env.locals h (fun y => if y = x then some (.int (a₀ + (i : Int)) t) else m₁ y) → News h₀ env.locals h (own ++ news) →
      wpAny (model prog w) A (execs body env) (InvPost h₀ env.locals (J (i + 1)) (own ++ news) { s with heap := h, toks := tk } Q) E { s with heap := h, toks := tk })
    (done : ∀ m₁ h tk, J n m₁ → Fr h₀ env.locals h m₁ → News h₀ env.locals h news → Q .next { s with heap := h, toks := tk }) :
    wpAny (model prog w) A (pyIter (.ref r)) (fun it s₂ => LoopAtV prog w A h₀ env x body Q E it s₂) E s := by
  refine iter_rangeP (fun i m nw => nw = news ∧ J i m) hh hr hsmall hn F N ⟨rfl, hj⟩ ?_ ?_
  · rintro i t m₁ news₁ h tk own I hi ⟨rfl, hJ⟩ hown hoff F₁ N₁
    refine wpAny_mono (turn i t m₁ h tk own hi hJ F₁ N₁) (fun f s₂ p => ?_) fun _ _ e => e
    have fin : InvEnd h₀ env.locals (J (i + 1)) (own ++ news₁) { s with heap := h, toks := tk } s₂ → REnd h₀ env.locals I own (fun m nw => nw = news₁ ∧ J (i + 1) m) { s with heap := h, toks := tk } s₂ := by
      rintro ⟨h', tk', m', news', e, F', N', hn, hm⟩
      exact ⟨h', tk', m', news₁, e, F', fun p hp => N' p (hn p hp), hoff, rfl, hm⟩
    cases f with
    | ret v => exact p
    | brk => exact p
    | next => exact fin p
    | cont => exact fin p
  · rintro m₁ news₁ h tk ⟨rfl, hJ⟩ F₁ N₁
    exact done m₁ h tk hJ F₁ N₁
end
section
variable {prog : Program} {w : World} {A : Around} {E : Value → Shared → Prop} {s : Shared} {Q : Value → Shared → Prop} {value slice : PySem.Expr} {h₀ : Heap} {L : Addr} {news : List (Addr × Obj)}
/-- an item of a made list at a place -/
theorem itemL {l : Addr} {vs : List Value} {n i : Nat} {u : Tok} {v : Value} (N : News h₀ L s.heap news) (hm : (l, listOf vs.toArray n) ∈ news) (hlen : vs.length ≤ 1000) (hx : vs[i]? = some v) (h : Q v s)
    (hs : subscripted slice false (.ref l) (.int (i : Int) u) = operate [.ref l, .int (i : Int) u] (getItem (.ref l) (.int (i : Int) u)) := by with_unfolding_all rfl) :
    wpAny (model prog w) A (subscriptTail value slice (.ref l) (.int (i : Int) u)) Q E s := by
  have hl : s.heap.IsList l vs.toArray := ⟨_, (N _ hm).1, rfl, n, rfl⟩
  have hi : i < vs.length := (List.getElem?_eq_some_iff.mp hx).1
  exact tail_any hl.typeIs slot_list_getitem.lookup (wpAny_getItem_list hl (Int.natCast_nonneg _) (by omega) (by simpa using hx) h) hs
end
section
variable {prog : Program} {w : World} {A : Around} {E : Value → Shared → Prop} {s : Shared} {h₀ : Heap} {L : Addr} {m : Str → Option Value} {news : List (Addr × Obj)} {t : Sem Flow} {Q : Flow → Shared → Prop}
/-- behind a statement that turns nothing -/
noncomputable def Mid (h₀ : Heap) (L : Addr) (m : Str → Option Value) (news : List (Addr × Obj)) (s : Shared) (f : Flow) (s' : Shared) : Prop := f = .next ∧ ∃ h tk, s' = { s with heap := h, toks := tk } ∧ Fr h₀ L h m ∧ News h₀ L h news
theorem Mid.intro {h : Heap} {tk : Nat} (F : Fr h₀ L h m) (N : News h₀ L h news) : Mid h₀ L m news s .next { s with heap := h, toks := tk } := ⟨rfl, h, tk, rfl, F, N⟩
theorem cutMid (F : Fr h₀ L s.heap m) (N : News h₀ L s.heap news) (h1 : wpAny (model prog w) A t (Mid h₀ L m news s) E s)
    (h2 : ∀ h tk, Fr h₀ L h m → News h₀ L h news → Q .next { s with heap := h, toks := tk }) : wpAny (model prog w) A t Q E s :=
  wpAny_mono h1 (by rintro f s' ⟨rfl, h, tk, rfl, F', N'⟩; exact h2 h tk F' N') fun _ _ e => e
/-- behind a statement that stores a text -/
noncomputable def MidS (h₀ : Heap) (L : Addr) (m : Str → Option Value) (news : List (Addr × Obj)) (b x : Str) (s : Shared) (f : Flow) (s' : Shared) : Prop :=
  f = .next ∧ ∃ h tk t, s' = { s with heap := h, toks := tk } ∧ Fr h₀ L h (fun y => if y = b then some (.str x t) else m y) ∧ News h₀ L h news
theorem MidS.intro {h : Heap} {tk : Nat} {b x x' : Str} {t : Tok} (e : x' = x) (F : Fr h₀ L h fun y => if y = b then some (.str x' t) else m y) (N : News h₀ L h news) : MidS h₀ L m news b x s .next { s with heap := h, toks := tk } :=
  ⟨rfl, h, tk, t, rfl, e ▸ F, N⟩
theorem cutS (b x : Str) (F : Fr h₀ L s.heap m) (N : News h₀ L s.heap news) (h1 : wpAny (model prog w) A t (MidS h₀ L m news b x s) E s)
    (h2 : ∀ h tk t, Fr h₀ L h (fun y => if y = b then some (.str x t) else m y) → News h₀ L h news → Q .next { s with heap := h, toks := tk }) : wpAny (model prog w) A t Q E s :=
  wpAny_mono h1 (by rintro f s' ⟨rfl, h, tk, t, rfl, F', N'⟩; exact h2 h tk t F' N') fun _ _ e => e
end
end Mine
namespace Mine
set_option maxRecDepth 100000
set_option maxHeartbeats 8000000
theorem fillK2 : (fun (_ : OpenLaw) (_ : Params → Frag) => True) PySem.Challenge.rw_oj0022_01 Mine.KF := by
  k_fill
  trivial
theorem c_withcontrol (c k : Nat) (t : Tok) (v : VK c k) : Calls 86 2 16 [.int (ev c k) t] [] REv := by
  have hn := ev_nonneg c k
  have hn2 := ev_lt v
  (w_top off; intro w mean mg mb dp un gd cn cs a ccd cl outer A₀ base h₀ L m s Q E B F X N T hk hdp hun hret; refine wpAny_call ?_; k_dflt first | (refine' code_own ?k1 ?k2 ?k3 ?k4 ?k5 ?kA ?kF ?kK ?k6 ?k7 ?k8 ?k9 ?kB hret ?_ ?c2 ?c3 ?c4 ?c5; ((case kA | kF => exact rfl); (case kK => assumption); (case k1 | k2 | k3 | k4 | k5 => k_asm); (case k6 | k7 => k_is); (case k8 => exact room0 hdp)); (case k9 => first | exact BindsTo.of_eq rfl | exact binds_K (by k_in) rfl (by k_is) rfl rfl rfl); (case c5 => decide); (case kB => exact locs rfl); ((case c2 | c3 | c4 => exact rfl); k_whole; clear hret B F X N T); intro g' L' h' F' N' B' X' T'; (try dsimp only); (try k_lift B'); (try k_fold)) | (refine' code_ownC ?k1 ?k2 ?k3 ?k4 ?k5 ?kA ?kF ?kK ?k6 ?k7 ?k8 ?k9 ?kB ?kD hret ?_ ?c2 ?c3 ?c4; ((case kA | kF => exact rfl); (case kK => assumption); (case k1 | k2 | k3 | k4 | k5 => k_asm); (case k6 | k7 => k_is); (case k8 => exact room0 hdp)); (case k9 => exact BindsTo.of_eq rfl); (case kB => exact rfl); (case kD => decide +kernel); ((case c2 | c3 | c4 => exact rfl); k_whole; clear hret B F X N T); intro g' L' h' tk' cells' F' N' Y' B' X' T' l1; (try k_lt l1); k_cells Y'; (try simp only [List.cons_append, List.nil_append] at N'); (try dsimp only); (try k_lift B'); (try k_fold)))
  (repeat' (first | (k_unfold; (try dsimp only)) | (k_end; wrow_close) | ((with_reducible show wpAny _ _ (call (.ref _) _) _ _ _); with_reducible (first | (o_head (RInt.use (c_codeof _ _)); walk_at "c_gI") | (o_head (RInt.use (c_bitsof _ _)); walk_at "c_gI") | (o_head (RVal.use (c_hascc _ _)); walk_at "c_gI") | (o_head (RVal.use (c_isgreat _ _)); walk_at "c_gI"))) | ((with_reducible show LeaveO ..); with_reducible ((k_dflt (refine' LeaveO.intro ?k1 ?k2 ?_; (case k1 => k_asm); (case k2 => k_asm); k_whole; (try dsimp only))))) | walk1 | (dsimp only; walk1) | (leave1; walk_say "STEP leave1"; try dsimp only) | fail "no step"); (all_goals (try k_data)))
  all_goals (refine REv.mk ?_; first | exact wc_great v.hc v.hk | exact wc_small v.hc v.hk | exact ⟨c, k, rfl, v⟩ | exact wc_other v.hc v.hk (by assumption) (by assumption))
theorem find_65 : Txt.find (Str.ofString "ACHMSs") ⟨#[65]⟩ = 0 := by decide +kernel
theorem c_bitof65 (t : Tok) : Calls 29 1 8 [.str ⟨#[65]⟩ t] [] (RInt 4194304) := by
  (w_top off; intro w mean mg mb dp un gd cn cs a ccd cl outer A₀ base h₀ L m s Q E B F X N T hk hdp hun hret; refine wpAny_call ?_; k_dflt first | (refine' code_own ?k1 ?k2 ?k3 ?k4 ?k5 ?kA ?kF ?kK ?k6 ?k7 ?k8 ?k9 ?kB hret ?_ ?c2 ?c3 ?c4 ?c5; ((case kA | kF => exact rfl); (case kK => assumption); (case k1 | k2 | k3 | k4 | k5 => k_asm); (case k6 | k7 => k_is); (case k8 => exact room0 hdp)); (case k9 => first | exact BindsTo.of_eq rfl | exact binds_K (by k_in) rfl (by k_is) rfl rfl rfl); (case c5 => decide); (case kB => exact locs rfl); ((case c2 | c3 | c4 => exact rfl); k_whole; clear hret B F X N T); intro g' L' h' F' N' B' X' T'; (try dsimp only); (try k_lift B'); (try k_fold)) | (refine' code_ownC ?k1 ?k2 ?k3 ?k4 ?k5 ?kA ?kF ?kK ?k6 ?k7 ?k8 ?k9 ?kB ?kD hret ?_ ?c2 ?c3 ?c4; ((case kA | kF => exact rfl); (case kK => assumption); (case k1 | k2 | k3 | k4 | k5 => k_asm); (case k6 | k7 => k_is); (case k8 => exact room0 hdp)); (case k9 => exact BindsTo.of_eq rfl); (case kB => exact rfl); (case kD => decide +kernel); ((case c2 | c3 | c4 => exact rfl); k_whole; clear hret B F X N T); intro g' L' h' tk' cells' F' N' Y' B' X' T' l1; (try k_lt l1); k_cells Y'; (try simp only [List.cons_append, List.nil_append] at N'); (try dsimp only); (try k_lift B'); (try k_fold)))
  (repeat' (first | (k_unfold; (try dsimp only)) | (k_end; wrow_close) | ((with_reducible show wpAny _ _ (call (.ref _) _) _ _ _); with_reducible (first | (o_head (RInt.use (c_codeof _ _)); walk_at "c_gI") | (o_head (RInt.use (c_bitsof _ _)); walk_at "c_gI") | (o_head (RVal.use (c_hascc _ _)); walk_at "c_gI") | (o_head (RVal.use (c_isgreat _ _)); walk_at "c_gI"))) | ((with_reducible show LeaveO ..); with_reducible ((k_dflt (refine' LeaveO.intro ?k1 ?k2 ?_; (case k1 => k_asm); (case k2 => k_asm); k_whole; (try dsimp only))))) | walk1 | (dsimp only; walk1) | (leave1; walk_say "STEP leave1"; try dsimp only) | fail "no step"); (all_goals (try k_data)))
  · exact absurd (by assumption : Txt.find (Str.ofString "ACHMSs") ⟨#[65]⟩ = -1) (by decide +kernel)
  · rw [find_65]
    (repeat' (first | (k_unfold; (try dsimp only)) | (k_end; wrow_close) | ((with_reducible show wpAny _ _ (call (.ref _) _) _ _ _); with_reducible (first | (o_head (RInt.use (c_codeof _ _)); walk_at "c_gI") | (o_head (RInt.use (c_bitsof _ _)); walk_at "c_gI") | (o_head (RVal.use (c_hascc _ _)); walk_at "c_gI") | (o_head (RVal.use (c_isgreat _ _)); walk_at "c_gI"))) | ((with_reducible show LeaveO ..); with_reducible ((k_dflt (refine' LeaveO.intro ?k1 ?k2 ?_; (case k1 => k_asm); (case k2 => k_asm); k_whole; (try dsimp only))))) | walk1 | (dsimp only; walk1) | (leave1; walk_say "STEP leave1"; try dsimp only) | fail "no step"); (all_goals (try k_data)))
    all_goals (exact RInt.mk rfl)
theorem find_67 : Txt.find (Str.ofString "ACHMSs") ⟨#[67]⟩ = 1 := by decide +kernel
theorem c_bitof67 (t : Tok) : Calls 29 1 8 [.str ⟨#[67]⟩ t] [] (RInt 67108864) := by
  (w_top off; intro w mean mg mb dp un gd cn cs a ccd cl outer A₀ base h₀ L m s Q E B F X N T hk hdp hun hret; refine wpAny_call ?_; k_dflt first | (refine' code_own ?k1 ?k2 ?k3 ?k4 ?k5 ?kA ?kF ?kK ?k6 ?k7 ?k8 ?k9 ?kB hret ?_ ?c2 ?c3 ?c4 ?c5; ((case kA | kF => exact rfl); (case kK => assumption); (case k1 | k2 | k3 | k4 | k5 => k_asm); (case k6 | k7 => k_is); (case k8 => exact room0 hdp)); (case k9 => first | exact BindsTo.of_eq rfl | exact binds_K (by k_in) rfl (by k_is) rfl rfl rfl); (case c5 => decide); (case kB => exact locs rfl); ((case c2 | c3 | c4 => exact rfl); k_whole; clear hret B F X N T); intro g' L' h' F' N' B' X' T'; (try dsimp only); (try k_lift B'); (try k_fold)) | (refine' code_ownC ?k1 ?k2 ?k3 ?k4 ?k5 ?kA ?kF ?kK ?k6 ?k7 ?k8 ?k9 ?kB ?kD hret ?_ ?c2 ?c3 ?c4; ((case kA | kF => exact rfl); (case kK => assumption); (case k1 | k2 | k3 | k4 | k5 => k_asm); (case k6 | k7 => k_is); (case k8 => exact room0 hdp)); (case k9 => exact BindsTo.of_eq rfl); (case kB => exact rfl); (case kD => decide +kernel); ((case c2 | c3 | c4 => exact rfl); k_whole; clear hret B F X N T); intro g' L' h' tk' cells' F' N' Y' B' X' T' l1; (try k_lt l1); k_cells Y'; (try simp only [List.cons_append, List.nil_append] at N'); (try dsimp only); (try k_lift B'); (try k_fold)))
  (repeat' (first | (k_unfold; (try dsimp only)) | (k_end; wrow_close) | ((with_reducible show wpAny _ _ (call (.ref _) _) _ _ _); with_reducible (first | (o_head (RInt.use (c_codeof _ _)); walk_at "c_gI") | (o_head (RInt.use (c_bitsof _ _)); walk_at "c_gI") | (o_head (RVal.use (c_hascc _ _)); walk_at "c_gI") | (o_head (RVal.use (c_isgreat _ _)); walk_at "c_gI"))) | ((with_reducible show LeaveO ..); with_reducible ((k_dflt (refine' LeaveO.intro ?k1 ?k2 ?_; (case k1 => k_asm); (case k2 => k_asm); k_whole; (try dsimp only))))) | walk1 | (dsimp only; walk1) | (leave1; walk_say "STEP leave1"; try dsimp only) | fail "no step"); (all_goals (try k_data)))
  · exact absurd (by assumption : Txt.find (Str.ofString "ACHMSs") ⟨#[67]⟩ = -1) (by decide +kernel)
  · rw [find_67]
    (repeat' (first | (k_unfold; (try dsimp only)) | (k_end; wrow_close) | ((with_reducible show wpAny _ _ (call (.ref _) _) _ _ _); with_reducible (first | (o_head (RInt.use (c_codeof _ _)); walk_at "c_gI") | (o_head (RInt.use (c_bitsof _ _)); walk_at "c_gI") | (o_head (RVal.use (c_hascc _ _)); walk_at "c_gI") | (o_head (RVal.use (c_isgreat _ _)); walk_at "c_gI"))) | ((with_reducible show LeaveO ..); with_reducible ((k_dflt (refine' LeaveO.intro ?k1 ?k2 ?_; (case k1 => k_asm); (case k2 => k_asm); k_whole; (try dsimp only))))) | walk1 | (dsimp only; walk1) | (leave1; walk_say "STEP leave1"; try dsimp only) | fail "no step"); (all_goals (try k_data)))
    all_goals (exact RInt.mk rfl)
theorem find_72 : Txt.find (Str.ofString "ACHMSs") ⟨#[72]⟩ = 2 := by decide +kernel
theorem c_bitof72 (t : Tok) : Calls 29 1 8 [.str ⟨#[72]⟩ t] [] (RInt 16777216) := by
  (w_top off; intro w mean mg mb dp un gd cn cs a ccd cl outer A₀ base h₀ L m s Q E B F X N T hk hdp hun hret; refine wpAny_call ?_; k_dflt first | (refine' code_own ?k1 ?k2 ?k3 ?k4 ?k5 ?kA ?kF ?kK ?k6 ?k7 ?k8 ?k9 ?kB hret ?_ ?c2 ?c3 ?c4 ?c5; ((case kA | kF => exact rfl); (case kK => assumption); (case k1 | k2 | k3 | k4 | k5 => k_asm); (case k6 | k7 => k_is); (case k8 => exact room0 hdp)); (case k9 => first | exact BindsTo.of_eq rfl | exact binds_K (by k_in) rfl (by k_is) rfl rfl rfl); (case c5 => decide); (case kB => exact locs rfl); ((case c2 | c3 | c4 => exact rfl); k_whole; clear hret B F X N T); intro g' L' h' F' N' B' X' T'; (try dsimp only); (try k_lift B'); (try k_fold)) | (refine' code_ownC ?k1 ?k2 ?k3 ?k4 ?k5 ?kA ?kF ?kK ?k6 ?k7 ?k8 ?k9 ?kB ?kD hret ?_ ?c2 ?c3 ?c4; ((case kA | kF => exact rfl); (case kK => assumption); (case k1 | k2 | k3 | k4 | k5 => k_asm); (case k6 | k7 => k_is); (case k8 => exact room0 hdp)); (case k9 => exact BindsTo.of_eq rfl); (case kB => exact rfl); (case kD => decide +kernel); ((case c2 | c3 | c4 => exact rfl); k_whole; clear hret B F X N T); intro g' L' h' tk' cells' F' N' Y' B' X' T' l1; (try k_lt l1); k_cells Y'; (try simp only [List.cons_append, List.nil_append] at N'); (try dsimp only); (try k_lift B'); (try k_fold)))
  (repeat' (first | (k_unfold; (try dsimp only)) | (k_end; wrow_close) | ((with_reducible show wpAny _ _ (call (.ref _) _) _ _ _); with_reducible (first | (o_head (RInt.use (c_codeof _ _)); walk_at "c_gI") | (o_head (RInt.use (c_bitsof _ _)); walk_at "c_gI") | (o_head (RVal.use (c_hascc _ _)); walk_at "c_gI") | (o_head (RVal.use (c_isgreat _ _)); walk_at "c_gI"))) | ((with_reducible show LeaveO ..); with_reducible ((k_dflt (refine' LeaveO.intro ?k1 ?k2 ?_; (case k1 => k_asm); (case k2 => k_asm); k_whole; (try dsimp only))))) | walk1 | (dsimp only; walk1) | (leave1; walk_say "STEP leave1"; try dsimp only) | fail "no step"); (all_goals (try k_data)))
  · exact absurd (by assumption : Txt.find (Str.ofString "ACHMSs") ⟨#[72]⟩ = -1) (by decide +kernel)
  · rw [find_72]
    (repeat' (first | (k_unfold; (try dsimp only)) | (k_end; wrow_close) | ((with_reducible show wpAny _ _ (call (.ref _) _) _ _ _); with_reducible (first | (o_head (RInt.use (c_codeof _ _)); walk_at "c_gI") | (o_head (RInt.use (c_bitsof _ _)); walk_at "c_gI") | (o_head (RVal.use (c_hascc _ _)); walk_at "c_gI") | (o_head (RVal.use (c_isgreat _ _)); walk_at "c_gI"))) | ((with_reducible show LeaveO ..); with_reducible ((k_dflt (refine' LeaveO.intro ?k1 ?k2 ?_; (case k1 => k_asm); (case k2 => k_asm); k_whole; (try dsimp only))))) | walk1 | (dsimp only; walk1) | (leave1; walk_say "STEP leave1"; try dsimp only) | fail "no step"); (all_goals (try k_data)))
    all_goals (exact RInt.mk rfl)
theorem find_77 : Txt.find (Str.ofString "ACHMSs") ⟨#[77]⟩ = 3 := by decide +kernel
theorem c_bitof77 (t : Tok) : Calls 29 1 8 [.str ⟨#[77]⟩ t] [] (RInt 134217728) := by
  (w_top off; intro w mean mg mb dp un gd cn cs a ccd cl outer A₀ base h₀ L m s Q E B F X N T hk hdp hun hret; refine wpAny_call ?_; k_dflt first | (refine' code_own ?k1 ?k2 ?k3 ?k4 ?k5 ?kA ?kF ?kK ?k6 ?k7 ?k8 ?k9 ?kB hret ?_ ?c2 ?c3 ?c4 ?c5; ((case kA | kF => exact rfl); (case kK => assumption); (case k1 | k2 | k3 | k4 | k5 => k_asm); (case k6 | k7 => k_is); (case k8 => exact room0 hdp)); (case k9 => first | exact BindsTo.of_eq rfl | exact binds_K (by k_in) rfl (by k_is) rfl rfl rfl); (case c5 => decide); (case kB => exact locs rfl); ((case c2 | c3 | c4 => exact rfl); k_whole; clear hret B F X N T); intro g' L' h' F' N' B' X' T'; (try dsimp only); (try k_lift B'); (try k_fold)) | (refine' code_ownC ?k1 ?k2 ?k3 ?k4 ?k5 ?kA ?kF ?kK ?k6 ?k7 ?k8 ?k9 ?kB ?kD hret ?_ ?c2 ?c3 ?c4; ((case kA | kF => exact rfl); (case kK => assumption); (case k1 | k2 | k3 | k4 | k5 => k_asm); (case k6 | k7 => k_is); (case k8 => exact room0 hdp)); (case k9 => exact BindsTo.of_eq rfl); (case kB => exact rfl); (case kD => decide +kernel); ((case c2 | c3 | c4 => exact rfl); k_whole; clear hret B F X N T); intro g' L' h' tk' cells' F' N' Y' B' X' T' l1; (try k_lt l1); k_cells Y'; (try simp only [List.cons_append, List.nil_append] at N'); (try dsimp only); (try k_lift B'); (try k_fold)))
  (repeat' (first | (k_unfold; (try dsimp only)) | (k_end; wrow_close) | ((with_reducible show wpAny _ _ (call (.ref _) _) _ _ _); with_reducible (first | (o_head (RInt.use (c_codeof _ _)); walk_at "c_gI") | (o_head (RInt.use (c_bitsof _ _)); walk_at "c_gI") | (o_head (RVal.use (c_hascc _ _)); walk_at "c_gI") | (o_head (RVal.use (c_isgreat _ _)); walk_at "c_gI"))) | ((with_reducible show LeaveO ..); with_reducible ((k_dflt (refine' LeaveO.intro ?k1 ?k2 ?_; (case k1 => k_asm); (case k2 => k_asm); k_whole; (try dsimp only))))) | walk1 | (dsimp only; walk1) | (leave1; walk_say "STEP leave1"; try dsimp only) | fail "no step"); (all_goals (try k_data)))
  · exact absurd (by assumption : Txt.find (Str.ofString "ACHMSs") ⟨#[77]⟩ = -1) (by decide +kernel)
  · rw [find_77]
    (repeat' (first | (k_unfold; (try dsimp only)) | (k_end; wrow_close) | ((with_reducible show wpAny _ _ (call (.ref _) _) _ _ _); with_reducible (first | (o_head (RInt.use (c_codeof _ _)); walk_at "c_gI") | (o_head (RInt.use (c_bitsof _ _)); walk_at "c_gI") | (o_head (RVal.use (c_hascc _ _)); walk_at "c_gI") | (o_head (RVal.use (c_isgreat _ _)); walk_at "c_gI"))) | ((with_reducible show LeaveO ..); with_reducible ((k_dflt (refine' LeaveO.intro ?k1 ?k2 ?_; (case k1 => k_asm); (case k2 => k_asm); k_whole; (try dsimp only))))) | walk1 | (dsimp only; walk1) | (leave1; walk_say "STEP leave1"; try dsimp only) | fail "no step"); (all_goals (try k_data)))
    all_goals (exact RInt.mk rfl)
theorem find_83 : Txt.find (Str.ofString "ACHMSs") ⟨#[83]⟩ = 4 := by decide +kernel
theorem c_bitof83 (t : Tok) : Calls 29 1 8 [.str ⟨#[83]⟩ t] [] (RInt 33554432) := by
  (w_top off; intro w mean mg mb dp un gd cn cs a ccd cl outer A₀ base h₀ L m s Q E B F X N T hk hdp hun hret; refine wpAny_call ?_; k_dflt first | (refine' code_own ?k1 ?k2 ?k3 ?k4 ?k5 ?kA ?kF ?kK ?k6 ?k7 ?k8 ?k9 ?kB hret ?_ ?c2 ?c3 ?c4 ?c5; ((case kA | kF => exact rfl); (case kK => assumption); (case k1 | k2 | k3 | k4 | k5 => k_asm); (case k6 | k7 => k_is); (case k8 => exact room0 hdp)); (case k9 => first | exact BindsTo.of_eq rfl | exact binds_K (by k_in) rfl (by k_is) rfl rfl rfl); (case c5 => decide); (case kB => exact locs rfl); ((case c2 | c3 | c4 => exact rfl); k_whole; clear hret B F X N T); intro g' L' h' F' N' B' X' T'; (try dsimp only); (try k_lift B'); (try k_fold)) | (refine' code_ownC ?k1 ?k2 ?k3 ?k4 ?k5 ?kA ?kF ?kK ?k6 ?k7 ?k8 ?k9 ?kB ?kD hret ?_ ?c2 ?c3 ?c4; ((case kA | kF => exact rfl); (case kK => assumption); (case k1 | k2 | k3 | k4 | k5 => k_asm); (case k6 | k7 => k_is); (case k8 => exact room0 hdp)); (case k9 => exact BindsTo.of_eq rfl); (case kB => exact rfl); (case kD => decide +kernel); ((case c2 | c3 | c4 => exact rfl); k_whole; clear hret B F X N T); intro g' L' h' tk' cells' F' N' Y' B' X' T' l1; (try k_lt l1); k_cells Y'; (try simp only [List.cons_append, List.nil_append] at N'); (try dsimp only); (try k_lift B'); (try k_fold)))
  (repeat' (first | (k_unfold; (try dsimp only)) | (k_end; wrow_close) | ((with_reducible show wpAny _ _ (call (.ref _) _) _ _ _); with_reducible (first | (o_head (RInt.use (c_codeof _ _)); walk_at "c_gI") | (o_head (RInt.use (c_bitsof _ _)); walk_at "c_gI") | (o_head (RVal.use (c_hascc _ _)); walk_at "c_gI") | (o_head (RVal.use (c_isgreat _ _)); walk_at "c_gI"))) | ((with_reducible show LeaveO ..); with_reducible ((k_dflt (refine' LeaveO.intro ?k1 ?k2 ?_; (case k1 => k_asm); (case k2 => k_asm); k_whole; (try dsimp only))))) | walk1 | (dsimp only; walk1) | (leave1; walk_say "STEP leave1"; try dsimp only) | fail "no step"); (all_goals (try k_data)))
  · exact absurd (by assumption : Txt.find (Str.ofString "ACHMSs") ⟨#[83]⟩ = -1) (by decide +kernel)
  · rw [find_83]
    (repeat' (first | (k_unfold; (try dsimp only)) | (k_end; wrow_close) | ((with_reducible show wpAny _ _ (call (.ref _) _) _ _ _); with_reducible (first | (o_head (RInt.use (c_codeof _ _)); walk_at "c_gI") | (o_head (RInt.use (c_bitsof _ _)); walk_at "c_gI") | (o_head (RVal.use (c_hascc _ _)); walk_at "c_gI") | (o_head (RVal.use (c_isgreat _ _)); walk_at "c_gI"))) | ((with_reducible show LeaveO ..); with_reducible ((k_dflt (refine' LeaveO.intro ?k1 ?k2 ?_; (case k1 => k_asm); (case k2 => k_asm); k_whole; (try dsimp only))))) | walk1 | (dsimp only; walk1) | (leave1; walk_say "STEP leave1"; try dsimp only) | fail "no step"); (all_goals (try k_data)))
    all_goals (exact RInt.mk rfl)
theorem find_115 : Txt.find (Str.ofString "ACHMSs") ⟨#[115]⟩ = 5 := by decide +kernel
theorem c_bitof115 (t : Tok) : Calls 29 1 8 [.str ⟨#[115]⟩ t] [] (RInt 8388608) := by
  (w_top off; intro w mean mg mb dp un gd cn cs a ccd cl outer A₀ base h₀ L m s Q E B F X N T hk hdp hun hret; refine wpAny_call ?_; k_dflt first | (refine' code_own ?k1 ?k2 ?k3 ?k4 ?k5 ?kA ?kF ?kK ?k6 ?k7 ?k8 ?k9 ?kB hret ?_ ?c2 ?c3 ?c4 ?c5; ((case kA | kF => exact rfl); (case kK => assumption); (case k1 | k2 | k3 | k4 | k5 => k_asm); (case k6 | k7 => k_is); (case k8 => exact room0 hdp)); (case k9 => first | exact BindsTo.of_eq rfl | exact binds_K (by k_in) rfl (by k_is) rfl rfl rfl); (case c5 => decide); (case kB => exact locs rfl); ((case c2 | c3 | c4 => exact rfl); k_whole; clear hret B F X N T); intro g' L' h' F' N' B' X' T'; (try dsimp only); (try k_lift B'); (try k_fold)) | (refine' code_ownC ?k1 ?k2 ?k3 ?k4 ?k5 ?kA ?kF ?kK ?k6 ?k7 ?k8 ?k9 ?kB ?kD hret ?_ ?c2 ?c3 ?c4; ((case kA | kF => exact rfl); (case kK => assumption); (case k1 | k2 | k3 | k4 | k5 => k_asm); (case k6 | k7 => k_is); (case k8 => exact room0 hdp)); (case k9 => exact BindsTo.of_eq rfl); (case kB => exact rfl); (case kD => decide +kernel); ((case c2 | c3 | c4 => exact rfl); k_whole; clear hret B F X N T); intro g' L' h' tk' cells' F' N' Y' B' X' T' l1; (try k_lt l1); k_cells Y'; (try simp only [List.cons_append, List.nil_append] at N'); (try dsimp only); (try k_lift B'); (try k_fold)))
  (repeat' (first | (k_unfold; (try dsimp only)) | (k_end; wrow_close) | ((with_reducible show wpAny _ _ (call (.ref _) _) _ _ _); with_reducible (first | (o_head (RInt.use (c_codeof _ _)); walk_at "c_gI") | (o_head (RInt.use (c_bitsof _ _)); walk_at "c_gI") | (o_head (RVal.use (c_hascc _ _)); walk_at "c_gI") | (o_head (RVal.use (c_isgreat _ _)); walk_at "c_gI"))) | ((with_reducible show LeaveO ..); with_reducible ((k_dflt (refine' LeaveO.intro ?k1 ?k2 ?_; (case k1 => k_asm); (case k2 => k_asm); k_whole; (try dsimp only))))) | walk1 | (dsimp only; walk1) | (leave1; walk_say "STEP leave1"; try dsimp only) | fail "no step"); (all_goals (try k_data)))
  · exact absurd (by assumption : Txt.find (Str.ofString "ACHMSs") ⟨#[115]⟩ = -1) (by decide +kernel)
  · rw [find_115]
    (repeat' (first | (k_unfold; (try dsimp only)) | (k_end; wrow_close) | ((with_reducible show wpAny _ _ (call (.ref _) _) _ _ _); with_reducible (first | (o_head (RInt.use (c_codeof _ _)); walk_at "c_gI") | (o_head (RInt.use (c_bitsof _ _)); walk_at "c_gI") | (o_head (RVal.use (c_hascc _ _)); walk_at "c_gI") | (o_head (RVal.use (c_isgreat _ _)); walk_at "c_gI"))) | ((with_reducible show LeaveO ..); with_reducible ((k_dflt (refine' LeaveO.intro ?k1 ?k2 ?_; (case k1 => k_asm); (case k2 => k_asm); k_whole; (try dsimp only))))) | walk1 | (dsimp only; walk1) | (leave1; walk_say "STEP leave1"; try dsimp only) | fail "no step"); (all_goals (try k_data)))
    all_goals (exact RInt.mk rfl)
theorem c_bitofL {x : Nat} (t : Tok) (hx : isL x) : Calls 29 1 8 [.str ⟨#[x]⟩ t] [] (RInt (Bof x)) := by
  rcases hx with rfl | rfl | rfl | rfl | rfl | rfl
  · exact c_bitof65 t
  · exact c_bitof67 t
  · exact c_bitof72 t
  · exact c_bitof77 t
  · exact c_bitof83 t
  · exact c_bitof115 t
theorem wl_any {c k x : Nat} (v : VK c k) (hx : isL x) (h : x ≠ 67) : ∃ c' k', ev c k % 4194304 + Builtin.bitOr (ev c k - ev c k % 4194304) (Bof x) = ev c' k' ∧ VK c' k' := by
  rcases hx with rfl | rfl | rfl | rfl | rfl | rfl
  · exact wl_bit v (bor1 k v.hk)
  · exact absurd rfl h
  · exact wl_bit v (bor4 k v.hk)
  · exact wl_bit v (bor32 k v.hk)
  · exact wl_bit v (bor8 k v.hk)
  · exact wl_bit v (bor2 k v.hk)
theorem eqC' (c : Nat) : (({ cps := #[c] } : Str) == Str.ofString "C") = decide (c = 67) := by
  rw [show Str.ofString "C" = (⟨#[67]⟩ : Str) from by decide +kernel]
  by_cases h : c = 67
  · subst h; simp
  · rw [decide_eq_false h, beq_eq_false_iff_ne]
    exact fun q => h (by injection q with q; simpa using q)
theorem c_withletter (c k x : Nat) (t t' : Tok) (v : VK c k) (hx : isL x) : Calls 93 3 24 [.int (ev c k) t, .str ⟨#[x]⟩ t'] [] REv := by
  have hn := ev_nonneg c k
  have hn2 := ev_lt v
  have hb := Bof_bound hx
  have hb1 := hb.1
  have hb2 := hb.2
  clear hb
  (w_top off; intro w mean mg mb dp un gd cn cs a ccd cl outer A₀ base h₀ L m s Q E B F X N T hk hdp hun hret; refine wpAny_call ?_; k_dflt first | (refine' code_own ?k1 ?k2 ?k3 ?k4 ?k5 ?kA ?kF ?kK ?k6 ?k7 ?k8 ?k9 ?kB hret ?_ ?c2 ?c3 ?c4 ?c5; ((case kA | kF => exact rfl); (case kK => assumption); (case k1 | k2 | k3 | k4 | k5 => k_asm); (case k6 | k7 => k_is); (case k8 => exact room0 hdp)); (case k9 => first | exact BindsTo.of_eq rfl | exact binds_K (by k_in) rfl (by k_is) rfl rfl rfl); (case c5 => decide); (case kB => exact locs rfl); ((case c2 | c3 | c4 => exact rfl); k_whole; clear hret B F X N T); intro g' L' h' F' N' B' X' T'; (try dsimp only); (try k_lift B'); (try k_fold)) | (refine' code_ownC ?k1 ?k2 ?k3 ?k4 ?k5 ?kA ?kF ?kK ?k6 ?k7 ?k8 ?k9 ?kB ?kD hret ?_ ?c2 ?c3 ?c4; ((case kA | kF => exact rfl); (case kK => assumption); (case k1 | k2 | k3 | k4 | k5 => k_asm); (case k6 | k7 => k_is); (case k8 => exact room0 hdp)); (case k9 => exact BindsTo.of_eq rfl); (case kB => exact rfl); (case kD => decide +kernel); ((case c2 | c3 | c4 => exact rfl); k_whole; clear hret B F X N T); intro g' L' h' tk' cells' F' N' Y' B' X' T' l1; (try k_lt l1); k_cells Y'; (try simp only [List.cons_append, List.nil_append] at N'); (try dsimp only); (try k_lift B'); (try k_fold)))
  (repeat' (first | (k_unfold; (try dsimp only)) | (k_end; wrow_close) | ((with_reducible show wpAny _ _ (call (.ref _) _) _ _ _); with_reducible (first | (o_head (REv.use (c_withcontrol _ _ _ (by assumption))); walk_at "c_gI") | (o_head (RInt.use (c_bitofL _ (by assumption))); walk_at "c_gI"))) | ((with_reducible show wpAny _ _ (call (.ref _) _) _ _ _); with_reducible (first | (o_head (RInt.use (c_codeof _ _)); walk_at "c_gI") | (o_head (RInt.use (c_bitsof _ _)); walk_at "c_gI") | (o_head (RVal.use (c_hascc _ _)); walk_at "c_gI") | (o_head (RVal.use (c_isgreat _ _)); walk_at "c_gI"))) | ((with_reducible show LeaveO ..); with_reducible ((k_dflt (refine' LeaveO.intro ?k1 ?k2 ?_; (case k1 => k_asm); (case k2 => k_asm); k_whole; (try dsimp only))))) | walk1 | (dsimp only; walk1) | (leave1; walk_say "STEP leave1"; try dsimp only) | fail "no step"); (all_goals (try k_data)))
  · exact REv.mk ⟨_, _, rfl, by assumption⟩
  · exact REv.mk (wl_any v hx (of_decide_eq_false ((eqC' x).symm.trans (by assumption))))
end Mine
namespace Mine
set_option maxRecDepth 100000
set_option maxHeartbeats 8000000
open LCg LCt
theorem fillK3 : (fun (_ : OpenLaw) (_ : Params → Frag) => True) PySem.Challenge.rw_oj0022_01 Mine.KF := by
  k_fill
  trivial
noncomputable def JO (x : Str) (nw0 : List (Addr × Obj)) (i : Nat) (ys : List Value) (nw : List (Addr × Obj)) : Prop :=
  nw = nw0 ∧ TXs ys (((LET.take i).filter fun c => x.cps.toList.contains c).map fun c => (⟨#[c]⟩ : Str))
theorem c_ordered (x : Str) (t : Tok) : Calls 34 1 8 [.str x t] [] (RStr (S (ordL x.cps.toList))) := by
  (w_top off; intro w mean mg mb dp un gd cn cs a ccd cl outer A₀ base h₀ L m s Q E B F X N T hk hdp hun hret; refine wpAny_call ?_; k_dflt first | (refine' code_own ?k1 ?k2 ?k3 ?k4 ?k5 ?kA ?kF ?kK ?k6 ?k7 ?k8 ?k9 ?kB hret ?_ ?c2 ?c3 ?c4 ?c5; ((case kA | kF => exact rfl); (case kK => assumption); (case k1 | k2 | k3 | k4 | k5 => k_asm); (case k6 | k7 => k_is); (case k8 => exact room0 hdp)); (case k9 => first | exact BindsTo.of_eq rfl | exact binds_K (by k_in) rfl (by k_is) rfl rfl rfl); (case c5 => decide); (case kB => exact locs rfl); ((case c2 | c3 | c4 => exact rfl); k_whole; clear hret B F X N T); intro g' L' h' F' N' B' X' T'; (try dsimp only); (try k_lift B'); (try k_fold)) | (refine' code_ownC ?k1 ?k2 ?k3 ?k4 ?k5 ?kA ?kF ?kK ?k6 ?k7 ?k8 ?k9 ?kB ?kD hret ?_ ?c2 ?c3 ?c4; ((case kA | kF => exact rfl); (case kK => assumption); (case k1 | k2 | k3 | k4 | k5 => k_asm); (case k6 | k7 => k_is); (case k8 => exact room0 hdp)); (case k9 => exact BindsTo.of_eq rfl); (case kB => exact rfl); (case kD => decide +kernel); ((case c2 | c3 | c4 => exact rfl); k_whole; clear hret B F X N T); intro g' L' h' tk' cells' F' N' Y' B' X' T' l1; (try k_lt l1); k_cells Y'; (try simp only [List.cons_append, List.nil_append] at N'); (try dsimp only); (try k_lift B'); (try k_fold)))
  (repeat' (first | (k_unfold; (try dsimp only)) | (k_end; wrow_close) | ((with_reducible show SrcS ..); with_reducible ((k_here; k_dflt (refine SrcS.mk (by rfl) (by k_asm) (by k_asm) (by rw [PySem.sizeLine_eq]; exact Nat.le_trans (Nat.le_of_eq (S_length _)) (Nat.le_trans (ordL_length _) (by decide))) ?_); intro g9))) | ((with_reducible show SrcTS ..); with_reducible ((k_here; k_dflt (refine SrcTS.mk (by rfl) (by k_asm) (by k_asm) (by decide +kernel) ?_); intro g9))) | ((with_reducible show wpAny _ _ (eval (.ListComp ..) _) _ _ _); with_reducible ((k_here; k_dflt (first | (lct_look; refine ListComp_TS (by k_asm) (by with_unfolding_all rfl) (by decide) (by rfl) (by decide) (by rfl) ?_) | refine ListComp_S (by k_asm) (by with_unfolding_all rfl) (by decide) (by rfl) (by decide) (by rfl) ?_)))) | ((with_reducible show LeaveO ..); with_reducible ((k_dflt (refine' LeaveO.intro ?k1 ?k2 ?_; (case k1 => k_asm); (case k2 => k_asm); k_whole; (try dsimp only))))) | walk1 | (dsimp only; walk1) | (leave1; walk_say "STEP leave1"; try dsimp only) | fail "no step"); (all_goals (try k_data)))
  refine restT_inv (JO x _) (fun ys nw hJ => ?fin) (fun i ys nw hi hJ v I oI C oC D m₂ h tk E' hP hC hx F N off ne => ?turn) _ 0 _ _ (Nat.zero_add _) ⟨rfl, TXs.nil⟩
  case turn =>
    obtain ⟨rfl, hT⟩ := hJ
    obtain ⟨c, u, hc, rfl⟩ := hP
    rw [letters_is] at hc
    simp only [Off3, and_true] at off
    (repeat' (first | (k_unfold; (try dsimp only)) | (k_end; wrow_close) | ((with_reducible show SrcS ..); with_reducible ((k_here; k_dflt (refine SrcS.mk (by rfl) (by k_asm) (by k_asm) (by rw [PySem.sizeLine_eq]; exact Nat.le_trans (Nat.le_of_eq (S_length _)) (Nat.le_trans (ordL_length _) (by decide))) ?_); intro g9))) | ((with_reducible show SrcTS ..); with_reducible ((k_here; k_dflt (refine SrcTS.mk (by rfl) (by k_asm) (by k_asm) (by decide +kernel) ?_); intro g9))) | ((with_reducible show wpAny _ _ (eval (.ListComp ..) _) _ _ _); with_reducible ((k_here; k_dflt (first | (lct_look; refine ListComp_TS (by k_asm) (by with_unfolding_all rfl) (by decide) (by rfl) (by decide) (by rfl) ?_) | refine ListComp_S (by k_asm) (by with_unfolding_all rfl) (by decide) (by rfl) (by decide) (by rfl) ?_)))) | ((with_reducible show LeaveO ..); with_reducible ((k_dflt (refine' LeaveO.intro ?k1 ?k2 ?_; (case k1 => k_asm); (case k2 => k_asm); k_whole; (try dsimp only))))) | walk1 | (dsimp only; walk1) | (leave1; walk_say "STEP leave1"; try dsimp only) | fail "no step"); (all_goals (try k_data)))
    · exact ⟨rfl, hT.same (by rw [take_filter_no (S_get hc) (found_no (by assumption))])⟩
    · exact ⟨rfl, hT.snoc' (by rw [take_filter (S_get hc) (found (by assumption)), List.map_append]; rfl)⟩
  case fin =>
    obtain ⟨rfl, hT⟩ := hJ
    (repeat' (first | (k_unfold; (try dsimp only)) | (k_end; wrow_close) | ((with_reducible show SrcS ..); with_reducible ((k_here; k_dflt (refine SrcS.mk (by rfl) (by k_asm) (by k_asm) (by rw [PySem.sizeLine_eq]; exact Nat.le_trans (Nat.le_of_eq (S_length _)) (Nat.le_trans (ordL_length _) (by decide))) ?_); intro g9))) | ((with_reducible show SrcTS ..); with_reducible ((k_here; k_dflt (refine SrcTS.mk (by rfl) (by k_asm) (by k_asm) (by decide +kernel) ?_); intro g9))) | ((with_reducible show wpAny _ _ (eval (.ListComp ..) _) _ _ _); with_reducible ((k_here; k_dflt (first | (lct_look; refine ListComp_TS (by k_asm) (by with_unfolding_all rfl) (by decide) (by rfl) (by decide) (by rfl) ?_) | refine ListComp_S (by k_asm) (by with_unfolding_all rfl) (by decide) (by rfl) (by decide) (by rfl) ?_)))) | ((with_reducible show LeaveO ..); with_reducible ((k_dflt (refine' LeaveO.intro ?k1 ?k2 ?_; (case k1 => k_asm); (case k2 => k_asm); k_whole; (try dsimp only))))) | walk1 | (dsimp only; walk1) | (leave1; walk_say "STEP leave1"; try dsimp only) | fail "no step"); (all_goals (try k_data)))
    refine join_TX (by k_asm) (by k_mem) hT ?_ ?_
    · exact joinOk_few ofString_empty (by rw [List.length_map]; exact Nat.le_trans (List.length_filter_le _ _) (by rw [List.length_take]; exact Nat.le_trans (Nat.min_le_right _ _) (by decide))) (fun y hy => by obtain ⟨c, _, rfl⟩ := List.mem_map.mp hy; exact Nat.le_succ 1)
    intro t' k'
    (repeat' (first | (k_unfold; (try dsimp only)) | (k_end; wrow_close) | ((with_reducible show SrcS ..); with_reducible ((k_here; k_dflt (refine SrcS.mk (by rfl) (by k_asm) (by k_asm) (by rw [PySem.sizeLine_eq]; exact Nat.le_trans (Nat.le_of_eq (S_length _)) (Nat.le_trans (ordL_length _) (by decide))) ?_); intro g9))) | ((with_reducible show SrcTS ..); with_reducible ((k_here; k_dflt (refine SrcTS.mk (by rfl) (by k_asm) (by k_asm) (by decide +kernel) ?_); intro g9))) | ((with_reducible show wpAny _ _ (eval (.ListComp ..) _) _ _ _); with_reducible ((k_here; k_dflt (first | (lct_look; refine ListComp_TS (by k_asm) (by with_unfolding_all rfl) (by decide) (by rfl) (by decide) (by rfl) ?_) | refine ListComp_S (by k_asm) (by with_unfolding_all rfl) (by decide) (by rfl) (by decide) (by rfl) ?_)))) | ((with_reducible show LeaveO ..); with_reducible ((k_dflt (refine' LeaveO.intro ?k1 ?k2 ?_; (case k1 => k_asm); (case k2 => k_asm); k_whole; (try dsimp only))))) | walk1 | (dsimp only; walk1) | (leave1; walk_say "STEP leave1"; try dsimp only) | fail "no step"); (all_goals (try k_data)))
    refine RStr.mk ?_
    rw [join_sel]
    exact congrArg S (by rw [show LET.take (Str.ofString "ACHMSs").cps.size = LET from by decide +kernel]; rfl)
noncomputable def JL (x : List Nat) (nw0 : List (Addr × Obj)) (i : Nat) (ys : List Value) (nw : List (Addr × Obj)) : Prop :=
  nw = nw0 ∧ TXs ys ((x.take i).map fun c => (⟨#[c, 45]⟩ : Str))
theorem c_letterstext (x : Str) (t : Tok) : Calls 128 2 16 [.str x t] [] (RStr (S (ltx (ordL x.cps.toList)))) := by
  (w_top off; intro w mean mg mb dp un gd cn cs a ccd cl outer A₀ base h₀ L m s Q E B F X N T hk hdp hun hret; refine wpAny_call ?_; k_dflt first | (refine' code_own ?k1 ?k2 ?k3 ?k4 ?k5 ?kA ?kF ?kK ?k6 ?k7 ?k8 ?k9 ?kB hret ?_ ?c2 ?c3 ?c4 ?c5; ((case kA | kF => exact rfl); (case kK => assumption); (case k1 | k2 | k3 | k4 | k5 => k_asm); (case k6 | k7 => k_is); (case k8 => exact room0 hdp)); (case k9 => first | exact BindsTo.of_eq rfl | exact binds_K (by k_in) rfl (by k_is) rfl rfl rfl); (case c5 => decide); (case kB => exact locs rfl); ((case c2 | c3 | c4 => exact rfl); k_whole; clear hret B F X N T); intro g' L' h' F' N' B' X' T'; (try dsimp only); (try k_lift B'); (try k_fold)) | (refine' code_ownC ?k1 ?k2 ?k3 ?k4 ?k5 ?kA ?kF ?kK ?k6 ?k7 ?k8 ?k9 ?kB ?kD hret ?_ ?c2 ?c3 ?c4; ((case kA | kF => exact rfl); (case kK => assumption); (case k1 | k2 | k3 | k4 | k5 => k_asm); (case k6 | k7 => k_is); (case k8 => exact room0 hdp)); (case k9 => exact BindsTo.of_eq rfl); (case kB => exact rfl); (case kD => decide +kernel); ((case c2 | c3 | c4 => exact rfl); k_whole; clear hret B F X N T); intro g' L' h' tk' cells' F' N' Y' B' X' T' l1; (try k_lt l1); k_cells Y'; (try simp only [List.cons_append, List.nil_append] at N'); (try dsimp only); (try k_lift B'); (try k_fold)))
  (repeat' (first | (k_unfold; (try dsimp only)) | (k_end; wrow_close) | ((with_reducible show wpAny _ _ (call (.ref _) _) _ _ _); with_reducible ((o_head (RStr.use (c_ordered _ _)); walk_at "c_gI"))) | ((with_reducible show SrcS ..); with_reducible ((k_here; k_dflt (refine SrcS.mk (by rfl) (by k_asm) (by k_asm) (by rw [PySem.sizeLine_eq]; exact Nat.le_trans (Nat.le_of_eq (S_length _)) (Nat.le_trans (ordL_length _) (by decide))) ?_); intro g9))) | ((with_reducible show SrcTS ..); with_reducible ((k_here; k_dflt (refine SrcTS.mk (by rfl) (by k_asm) (by k_asm) (by decide +kernel) ?_); intro g9))) | ((with_reducible show wpAny _ _ (eval (.ListComp ..) _) _ _ _); with_reducible ((k_here; k_dflt (first | (lct_look; refine ListComp_TS (by k_asm) (by with_unfolding_all rfl) (by decide) (by rfl) (by decide) (by rfl) ?_) | refine ListComp_S (by k_asm) (by with_unfolding_all rfl) (by decide) (by rfl) (by decide) (by rfl) ?_)))) | ((with_reducible show LeaveO ..); with_reducible ((k_dflt (refine' LeaveO.intro ?k1 ?k2 ?_; (case k1 => k_asm); (case k2 => k_asm); k_whole; (try dsimp only))))) | walk1 | (dsimp only; walk1) | (leave1; walk_say "STEP leave1"; try dsimp only) | fail "no step"); (all_goals (try k_data)))
  refine rest_inv (JL (ordL x.cps.toList) _) (fun ys nw hJ => ?fin) (fun i ys nw hi hJ v I oI C oC D m₂ h tk E' hP hC hx F N off ne => ?turn) _ 0 _ _ (Nat.zero_add _) ⟨rfl, TXs.nil⟩
  case turn =>
    obtain ⟨rfl, hT⟩ := hJ
    obtain ⟨c, u, hc, rfl⟩ := hP
    simp only [Off3] at off
    (repeat' (first | (k_unfold; (try dsimp only)) | (k_end; wrow_close) | ((with_reducible show wpAny _ _ (call (.ref _) _) _ _ _); with_reducible ((o_head (RStr.use (c_ordered _ _)); walk_at "c_gI"))) | ((with_reducible show SrcS ..); with_reducible ((k_here; k_dflt (refine SrcS.mk (by rfl) (by k_asm) (by k_asm) (by rw [PySem.sizeLine_eq]; exact Nat.le_trans (Nat.le_of_eq (S_length _)) (Nat.le_trans (ordL_length _) (by decide))) ?_); intro g9))) | ((with_reducible show SrcTS ..); with_reducible ((k_here; k_dflt (refine SrcTS.mk (by rfl) (by k_asm) (by k_asm) (by decide +kernel) ?_); intro g9))) | ((with_reducible show wpAny _ _ (eval (.ListComp ..) _) _ _ _); with_reducible ((k_here; k_dflt (first | (lct_look; refine ListComp_TS (by k_asm) (by with_unfolding_all rfl) (by decide) (by rfl) (by decide) (by rfl) ?_) | refine ListComp_S (by k_asm) (by with_unfolding_all rfl) (by decide) (by rfl) (by decide) (by rfl) ?_)))) | ((with_reducible show LeaveO ..); with_reducible ((k_dflt (refine' LeaveO.intro ?k1 ?k2 ?_; (case k1 => k_asm); (case k2 => k_asm); k_whole; (try dsimp only))))) | walk1 | (dsimp only; walk1) | (leave1; walk_say "STEP leave1"; try dsimp only) | fail "no step"); (all_goals (try k_data)))
    exact ⟨rfl, hT.snoc' (by rw [take_one (S_get hc), List.map_append, hyphen_is]; rfl)⟩
  case fin =>
    obtain ⟨rfl, hT⟩ := hJ
    (repeat' (first | (k_unfold; (try dsimp only)) | (k_end; wrow_close) | ((with_reducible show wpAny _ _ (call (.ref _) _) _ _ _); with_reducible ((o_head (RStr.use (c_ordered _ _)); walk_at "c_gI"))) | ((with_reducible show SrcS ..); with_reducible ((k_here; k_dflt (refine SrcS.mk (by rfl) (by k_asm) (by k_asm) (by rw [PySem.sizeLine_eq]; exact Nat.le_trans (Nat.le_of_eq (S_length _)) (Nat.le_trans (ordL_length _) (by decide))) ?_); intro g9))) | ((with_reducible show SrcTS ..); with_reducible ((k_here; k_dflt (refine SrcTS.mk (by rfl) (by k_asm) (by k_asm) (by decide +kernel) ?_); intro g9))) | ((with_reducible show wpAny _ _ (eval (.ListComp ..) _) _ _ _); with_reducible ((k_here; k_dflt (first | (lct_look; refine ListComp_TS (by k_asm) (by with_unfolding_all rfl) (by decide) (by rfl) (by decide) (by rfl) ?_) | refine ListComp_S (by k_asm) (by with_unfolding_all rfl) (by decide) (by rfl) (by decide) (by rfl) ?_)))) | ((with_reducible show LeaveO ..); with_reducible ((k_dflt (refine' LeaveO.intro ?k1 ?k2 ?_; (case k1 => k_asm); (case k2 => k_asm); k_whole; (try dsimp only))))) | walk1 | (dsimp only; walk1) | (leave1; walk_say "STEP leave1"; try dsimp only) | fail "no step"); (all_goals (try k_data)))
    refine join_TX (by k_asm) (by k_mem) hT ?_ ?_
    · exact joinOk_few ofString_empty (by rw [List.length_map]; exact Nat.le_trans (List.length_take_le _ _) (Nat.le_trans (ordL_length _) (by decide))) (fun y hy => by obtain ⟨c, _, rfl⟩ := List.mem_map.mp hy; exact Nat.le_refl 2)
    intro t' k'
    (repeat' (first | (k_unfold; (try dsimp only)) | (k_end; wrow_close) | ((with_reducible show wpAny _ _ (call (.ref _) _) _ _ _); with_reducible ((o_head (RStr.use (c_ordered _ _)); walk_at "c_gI"))) | ((with_reducible show SrcS ..); with_reducible ((k_here; k_dflt (refine SrcS.mk (by rfl) (by k_asm) (by k_asm) (by rw [PySem.sizeLine_eq]; exact Nat.le_trans (Nat.le_of_eq (S_length _)) (Nat.le_trans (ordL_length _) (by decide))) ?_); intro g9))) | ((with_reducible show SrcTS ..); with_reducible ((k_here; k_dflt (refine SrcTS.mk (by rfl) (by k_asm) (by k_asm) (by decide +kernel) ?_); intro g9))) | ((with_reducible show wpAny _ _ (eval (.ListComp ..) _) _ _ _); with_reducible ((k_here; k_dflt (first | (lct_look; refine ListComp_TS (by k_asm) (by with_unfolding_all rfl) (by decide) (by rfl) (by decide) (by rfl) ?_) | refine ListComp_S (by k_asm) (by with_unfolding_all rfl) (by decide) (by rfl) (by decide) (by rfl) ?_)))) | ((with_reducible show LeaveO ..); with_reducible ((k_dflt (refine' LeaveO.intro ?k1 ?k2 ?_; (case k1 => k_asm); (case k2 => k_asm); k_whole; (try dsimp only))))) | walk1 | (dsimp only; walk1) | (leave1; walk_say "STEP leave1"; try dsimp only) | fail "no step"); (all_goals (try k_data)))
    refine RStr.mk ?_
    rw [join_hyph']
    exact congrArg (fun l => S (ltx l)) (List.take_of_length_le (Nat.le_of_eq (S_length _).symm))
theorem c_joinname (x y : Str) (t t' : Tok) (hy : y.length ≤ 1000) : Calls 65 2 16 [.str x t, .str y t'] [] (RStr (S (ltx (ordL x.cps.toList)) ++ y)) := by
  (w_top off; intro w mean mg mb dp un gd cn cs a ccd cl outer A₀ base h₀ L m s Q E B F X N T hk hdp hun hret; refine wpAny_call ?_; k_dflt first | (refine' code_own ?k1 ?k2 ?k3 ?k4 ?k5 ?kA ?kF ?kK ?k6 ?k7 ?k8 ?k9 ?kB hret ?_ ?c2 ?c3 ?c4 ?c5; ((case kA | kF => exact rfl); (case kK => assumption); (case k1 | k2 | k3 | k4 | k5 => k_asm); (case k6 | k7 => k_is); (case k8 => exact room0 hdp)); (case k9 => first | exact BindsTo.of_eq rfl | exact binds_K (by k_in) rfl (by k_is) rfl rfl rfl); (case c5 => decide); (case kB => exact locs rfl); ((case c2 | c3 | c4 => exact rfl); k_whole; clear hret B F X N T); intro g' L' h' F' N' B' X' T'; (try dsimp only); (try k_lift B'); (try k_fold)) | (refine' code_ownC ?k1 ?k2 ?k3 ?k4 ?k5 ?kA ?kF ?kK ?k6 ?k7 ?k8 ?k9 ?kB ?kD hret ?_ ?c2 ?c3 ?c4; ((case kA | kF => exact rfl); (case kK => assumption); (case k1 | k2 | k3 | k4 | k5 => k_asm); (case k6 | k7 => k_is); (case k8 => exact room0 hdp)); (case k9 => exact BindsTo.of_eq rfl); (case kB => exact rfl); (case kD => decide +kernel); ((case c2 | c3 | c4 => exact rfl); k_whole; clear hret B F X N T); intro g' L' h' tk' cells' F' N' Y' B' X' T' l1; (try k_lt l1); k_cells Y'; (try simp only [List.cons_append, List.nil_append] at N'); (try dsimp only); (try k_lift B'); (try k_fold)))
  (repeat' (first | (k_unfold; (try dsimp only)) | (k_end; wrow_close) | ((with_reducible show wpAny _ _ (call (.ref _) _) _ _ _); with_reducible ((o_head (RStr.use (c_ordered _ _)); walk_at "c_gI"))) | ((with_reducible show SrcS ..); with_reducible ((k_here; k_dflt (refine SrcS.mk (by rfl) (by k_asm) (by k_asm) (by rw [PySem.sizeLine_eq]; exact Nat.le_trans (Nat.le_of_eq (S_length _)) (Nat.le_trans (ordL_length _) (by decide))) ?_); intro g9))) | ((with_reducible show SrcTS ..); with_reducible ((k_here; k_dflt (refine SrcTS.mk (by rfl) (by k_asm) (by k_asm) (by decide +kernel) ?_); intro g9))) | ((with_reducible show wpAny _ _ (eval (.ListComp ..) _) _ _ _); with_reducible ((k_here; k_dflt (first | (lct_look; refine ListComp_TS (by k_asm) (by with_unfolding_all rfl) (by decide) (by rfl) (by decide) (by rfl) ?_) | refine ListComp_S (by k_asm) (by with_unfolding_all rfl) (by decide) (by rfl) (by decide) (by rfl) ?_)))) | ((with_reducible show LeaveO ..); with_reducible ((k_dflt (refine' LeaveO.intro ?k1 ?k2 ?_; (case k1 => k_asm); (case k2 => k_asm); k_whole; (try dsimp only))))) | walk1 | (dsimp only; walk1) | (leave1; walk_say "STEP leave1"; try dsimp only) | fail "no step"); (all_goals (try k_data)))
  refine rest_inv (JL (ordL x.cps.toList) _) (fun ys nw hJ => ?fin) (fun i ys nw hi hJ v I oI C oC D m₂ h tk E' hP hC hx F N off ne => ?turn) _ 0 _ _ (Nat.zero_add _) ⟨rfl, TXs.nil⟩
  case turn =>
    obtain ⟨rfl, hT⟩ := hJ
    obtain ⟨c, u, hc, rfl⟩ := hP
    simp only [Off3] at off
    (repeat' (first | (k_unfold; (try dsimp only)) | (k_end; wrow_close) | ((with_reducible show wpAny _ _ (call (.ref _) _) _ _ _); with_reducible ((o_head (RStr.use (c_ordered _ _)); walk_at "c_gI"))) | ((with_reducible show SrcS ..); with_reducible ((k_here; k_dflt (refine SrcS.mk (by rfl) (by k_asm) (by k_asm) (by rw [PySem.sizeLine_eq]; exact Nat.le_trans (Nat.le_of_eq (S_length _)) (Nat.le_trans (ordL_length _) (by decide))) ?_); intro g9))) | ((with_reducible show SrcTS ..); with_reducible ((k_here; k_dflt (refine SrcTS.mk (by rfl) (by k_asm) (by k_asm) (by decide +kernel) ?_); intro g9))) | ((with_reducible show wpAny _ _ (eval (.ListComp ..) _) _ _ _); with_reducible ((k_here; k_dflt (first | (lct_look; refine ListComp_TS (by k_asm) (by with_unfolding_all rfl) (by decide) (by rfl) (by decide) (by rfl) ?_) | refine ListComp_S (by k_asm) (by with_unfolding_all rfl) (by decide) (by rfl) (by decide) (by rfl) ?_)))) | ((with_reducible show LeaveO ..); with_reducible ((k_dflt (refine' LeaveO.intro ?k1 ?k2 ?_; (case k1 => k_asm); (case k2 => k_asm); k_whole; (try dsimp only))))) | walk1 | (dsimp only; walk1) | (leave1; walk_say "STEP leave1"; try dsimp only) | fail "no step"); (all_goals (try k_data)))
    exact ⟨rfl, hT.snoc' (by rw [take_one (S_get hc), List.map_append, hyphen_is]; rfl)⟩
  case fin =>
    obtain ⟨rfl, hT⟩ := hJ
    (repeat' (first | (k_unfold; (try dsimp only)) | (k_end; wrow_close) | ((with_reducible show wpAny _ _ (call (.ref _) _) _ _ _); with_reducible ((o_head (RStr.use (c_ordered _ _)); walk_at "c_gI"))) | ((with_reducible show SrcS ..); with_reducible ((k_here; k_dflt (refine SrcS.mk (by rfl) (by k_asm) (by k_asm) (by rw [PySem.sizeLine_eq]; exact Nat.le_trans (Nat.le_of_eq (S_length _)) (Nat.le_trans (ordL_length _) (by decide))) ?_); intro g9))) | ((with_reducible show SrcTS ..); with_reducible ((k_here; k_dflt (refine SrcTS.mk (by rfl) (by k_asm) (by k_asm) (by decide +kernel) ?_); intro g9))) | ((with_reducible show wpAny _ _ (eval (.ListComp ..) _) _ _ _); with_reducible ((k_here; k_dflt (first | (lct_look; refine ListComp_TS (by k_asm) (by with_unfolding_all rfl) (by decide) (by rfl) (by decide) (by rfl) ?_) | refine ListComp_S (by k_asm) (by with_unfolding_all rfl) (by decide) (by rfl) (by decide) (by rfl) ?_)))) | ((with_reducible show LeaveO ..); with_reducible ((k_dflt (refine' LeaveO.intro ?k1 ?k2 ?_; (case k1 => k_asm); (case k2 => k_asm); k_whole; (try dsimp only))))) | walk1 | (dsimp only; walk1) | (leave1; walk_say "STEP leave1"; try dsimp only) | fail "no step"); (all_goals (try k_data)))
    refine join_TX (by k_asm) (by k_mem) hT ?_ ?_
    · exact joinOk_few ofString_empty (by rw [List.length_map]; exact Nat.le_trans (List.length_take_le _ _) (Nat.le_trans (ordL_length _) (by decide))) (fun y hy => by obtain ⟨c, _, rfl⟩ := List.mem_map.mp hy; exact Nat.le_refl 2)
    intro t' k'
    have hlen := ordL_length x.cps.toList
    have he : (ordL x.cps.toList).take (S (ordL x.cps.toList)).cps.size = ordL x.cps.toList := List.take_of_length_le (Nat.le_of_eq (S_length _).symm)
    rw [join_hyph', he]
    have hl2 : (S (ltx (ordL x.cps.toList))).length ≤ 12 := by rw [S_length, ltx_length]; omega
    (repeat' (first | (k_unfold; (try dsimp only)) | (k_end; wrow_close) | ((with_reducible show wpAny _ _ (call (.ref _) _) _ _ _); with_reducible ((o_head (RStr.use (c_ordered _ _)); walk_at "c_gI"))) | ((with_reducible show SrcS ..); with_reducible ((k_here; k_dflt (refine SrcS.mk (by rfl) (by k_asm) (by k_asm) (by rw [PySem.sizeLine_eq]; exact Nat.le_trans (Nat.le_of_eq (S_length _)) (Nat.le_trans (ordL_length _) (by decide))) ?_); intro g9))) | ((with_reducible show SrcTS ..); with_reducible ((k_here; k_dflt (refine SrcTS.mk (by rfl) (by k_asm) (by k_asm) (by decide +kernel) ?_); intro g9))) | ((with_reducible show wpAny _ _ (eval (.ListComp ..) _) _ _ _); with_reducible ((k_here; k_dflt (first | (lct_look; refine ListComp_TS (by k_asm) (by with_unfolding_all rfl) (by decide) (by rfl) (by decide) (by rfl) ?_) | refine ListComp_S (by k_asm) (by with_unfolding_all rfl) (by decide) (by rfl) (by decide) (by rfl) ?_)))) | ((with_reducible show LeaveO ..); with_reducible ((k_dflt (refine' LeaveO.intro ?k1 ?k2 ?_; (case k1 => k_asm); (case k2 => k_asm); k_whole; (try dsimp only))))) | walk1 | (dsimp only; walk1) | (leave1; walk_say "STEP leave1"; try dsimp only) | fail "no step"); (all_goals (try k_data)))
    all_goals exact RStr.mk rfl
end Mine
namespace Mine
set_option maxRecDepth 100000
set_option maxHeartbeats 8000000
open LCg LCt
theorem fillK4 : (fun (_ : OpenLaw) (_ : Params → Frag) => True) PySem.Challenge.rw_oj0022_01 Mine.KF := by
  k_fill
  trivial
noncomputable def JB (k : Nat) (nw0 : List (Addr × Obj)) (i : Nat) (ys : List Value) (nw : List (Addr × Obj)) : Prop :=
  nw = nw0 ∧ TXs ys (((LET.take i).filter (hasL k)).map fun c => (⟨#[c]⟩ : Str))
theorem c_bitletters (c k : Nat) (t : Tok) (v : VK c k) : Calls 53 1 8 [.int (ev c k) t] [] (RStr (S (klets k))) := by
  have hn := ev_nonneg c k
  have hn2 := ev_lt v
  (w_top off; intro w mean mg mb dp un gd cn cs a ccd cl outer A₀ base h₀ L m s Q E B F X N T hk hdp hun hret; refine wpAny_call ?_; k_dflt first | (refine' code_own ?k1 ?k2 ?k3 ?k4 ?k5 ?kA ?kF ?kK ?k6 ?k7 ?k8 ?k9 ?kB hret ?_ ?c2 ?c3 ?c4 ?c5; ((case kA | kF => exact rfl); (case kK => assumption); (case k1 | k2 | k3 | k4 | k5 => k_asm); (case k6 | k7 => k_is); (case k8 => exact room0 hdp)); (case k9 => first | exact BindsTo.of_eq rfl | exact binds_K (by k_in) rfl (by k_is) rfl rfl rfl); (case c5 => decide); (case kB => exact locs rfl); ((case c2 | c3 | c4 => exact rfl); k_whole; clear hret B F X N T); intro g' L' h' F' N' B' X' T'; (try dsimp only); (try k_lift B'); (try k_fold)) | (refine' code_ownC ?k1 ?k2 ?k3 ?k4 ?k5 ?kA ?kF ?kK ?k6 ?k7 ?k8 ?k9 ?kB ?kD hret ?_ ?c2 ?c3 ?c4; ((case kA | kF => exact rfl); (case kK => assumption); (case k1 | k2 | k3 | k4 | k5 => k_asm); (case k6 | k7 => k_is); (case k8 => exact room0 hdp)); (case k9 => exact BindsTo.of_eq rfl); (case kB => exact rfl); (case kD => decide +kernel); ((case c2 | c3 | c4 => exact rfl); k_whole; clear hret B F X N T); intro g' L' h' tk' cells' F' N' Y' B' X' T' l1; (try k_lt l1); k_cells Y'; (try simp only [List.cons_append, List.nil_append] at N'); (try dsimp only); (try k_lift B'); (try k_fold)))
  have hB : ∃ t1 t2 t3 t4 t5 t6, IsTup g' 15 (List.toArray [Value.int 4194304 t1, .int 67108864 t2, .int 16777216 t3, .int 134217728 t4, .int 33554432 t5, .int 8388608 t6]) := ⟨_, _, _, _, _, _, tupK X' (by k_is)⟩
  obtain ⟨t1, t2, t3, t4, t5, t6, hB⟩ := hB
  (repeat' (first | (k_unfold; (try dsimp only)) | (k_end; wrow_close) | ((with_reducible show wpAny _ _ (eval (.ListComp ..) _) _ _ _); with_reducible ((k_here; k_dflt (refine ListComp_PT (by k_asm) (by with_unfolding_all rfl) (by decide) (by rfl) (by decide) (by rfl) (by rfl) (by decide) ?_)))) | ((with_reducible show LeaveO ..); with_reducible ((k_dflt (refine' LeaveO.intro ?k1 ?k2 ?_; (case k1 => k_asm); (case k2 => k_asm); k_whole; (try dsimp only))))) | walk1 | (dsimp only; walk1) | (leave1; walk_say "STEP leave1"; try dsimp only) | fail "no step"); (all_goals (try k_data)))
  rename Fr g' L' _ _ => F₁
  rename News g' L' _ _ => N₁
  have hlB : 15 < g'.objs.size := hB.lt
  refine call_zs (by decide +kernel) (hB.keeps F₁.keep) ?_
  intro h₂ z TI TO i1 i2 D st hnew hk
  have hL₁ := F₁.ns.lt
  have hL₂ : @LE.le Nat _ g'.objs.size L' := F₁.above
  have new₀ : ∀ c ∈ [z, TI, TO, i1, i2], g'.get? c = none := fun c hc => by
    cases e : g'.get? c with
    | none => rfl
    | some o => exact absurd (Heap.lt_size (F₁.keep c o e)) (Nat.not_lt.mpr (hnew c hc).1)
  have F₂ := F₁.keeps hk
  have N₂ := N₁.grown hk
  refine wpAny_pyIter_zip st.1 ⟨z, _, _, 6, _, _, _, _, JB k _, rfl, zipWalks rfl D (Str.ofString "ACHMSs") 217 (List.toArray [Value.int 4194304 t1, .int 67108864 t2, .int 16777216 t3, .int 134217728 t4, .int 33554432 t5, .int 8388608 t6]) (show (Str.ofString "ACHMSs").cps.size = 6 from by decide +kernel), ?_, rfl, by decide +kernel, st, ?_, ?_, ?_, F₂, N₂, ?_, ⟨rfl, TXs.nil⟩, ?turn, ?fin⟩
  · rintro i vals ⟨c, u, y, _, _, rfl⟩
    exact ⟨_, _, rfl⟩
  · intro c hc
    rcases List.mem_append.mp (show c ∈ [z, TI, TO, i1, i2] ++ [15] from hc) with hc | hc
    · exact (hnew c hc).2
    · rw [List.mem_singleton.mp hc]
      exact IsTup.lt st.2.2.2.2.2
  · exact fun c hc => new₀ c (by simp at hc ⊢; rcases hc with rfl | rfl | rfl | rfl <;> simp)
  · intro hm
    rcases List.mem_append.mp (show L' ∈ [z, TI, TO, i1, i2] ++ [15] from hm) with hc | hc
    · exact absurd hL₁ (Nat.not_lt.mpr (hnew _ hc).1)
    · rw [List.mem_singleton.mp hc] at hL₂
      exact absurd hlB (Nat.not_lt.mpr hL₂)
  · intro p hp hm
    rcases List.mem_append.mp (show p.1 ∈ [z, TI, TO, i1, i2] ++ [15] from hm) with hc | hc
    · exact absurd (Heap.lt_size (N₁ p hp).1) (Nat.not_lt.mpr (hnew _ hc).1)
    · have e := (N₁ p hp).2.2
      obtain ⟨o, ho, _⟩ := hB
      rw [List.mem_singleton.mp hc, ho] at e
      cases e
  case turn =>
    intro i ys nw x y C oC D' m₂ h tk own E' hi hP hJ hC hx hy F N hCD off hown hCf hDf
    obtain ⟨rfl, hT⟩ := hJ
    obtain ⟨c', u, y', hc, hy', e⟩ := hP
    obtain ⟨rfl, rfl⟩ : x = .str ⟨#[c']⟩ u ∧ y = y' := by simpa using e
    rw [letters_is] at hc
    have hc := S_get hc
    obtain ⟨tb, rfl⟩ := bits_get rfl hc hy'
    have hb := Bof_bound (isL_get hc)
    have hb1 := hb.1
    have hb2 := hb.2
    clear e hb
    (repeat' (first | (k_unfold; (try dsimp only)) | (k_end; wrow_close) | ((with_reducible show wpAny _ _ (eval (.ListComp ..) _) _ _ _); with_reducible ((k_here; k_dflt (refine ListComp_PT (by k_asm) (by with_unfolding_all rfl) (by decide) (by rfl) (by decide) (by rfl) (by rfl) (by decide) ?_)))) | ((with_reducible show LeaveO ..); with_reducible ((k_dflt (refine' LeaveO.intro ?k1 ?k2 ?_; (case k1 => k_asm); (case k2 => k_asm); k_whole; (try dsimp only))))) | walk1 | (dsimp only; walk1) | (leave1; walk_say "STEP leave1"; try dsimp only) | fail "no step"); (all_goals (try k_data)))
    · refine ⟨_, _, _, rfl, by assumption, N, off, rfl, hT.snoc' (by rw [take_filter hc ((and_bof v.hc).mp (by assumption)), List.map_append]; rfl)⟩
    · refine ⟨_, _, _, rfl, by assumption, N, off, rfl, hT.same (by rw [take_filter_no hc (by rw [← Bool.not_eq_true, ← and_bof v.hc]; exact not_not_intro (by assumption))])⟩
  case fin =>
    intro D' h tk ys nw F N off hJ
    obtain ⟨rfl, hT⟩ := hJ
    (repeat' (first | (k_unfold; (try dsimp only)) | (k_end; wrow_close) | ((with_reducible show wpAny _ _ (eval (.ListComp ..) _) _ _ _); with_reducible ((k_here; k_dflt (refine ListComp_PT (by k_asm) (by with_unfolding_all rfl) (by decide) (by rfl) (by decide) (by rfl) (by rfl) (by decide) ?_)))) | ((with_reducible show LeaveO ..); with_reducible ((k_dflt (refine' LeaveO.intro ?k1 ?k2 ?_; (case k1 => k_asm); (case k2 => k_asm); k_whole; (try dsimp only))))) | walk1 | (dsimp only; walk1) | (leave1; walk_say "STEP leave1"; try dsimp only) | fail "no step"); (all_goals (try k_data)))
    refine join_TX (by k_asm) (by k_mem) hT ?_ ?_
    · exact joinOk_few ofString_empty (by rw [List.length_map]; exact Nat.le_trans (List.length_filter_le _ _) (by rw [List.length_take]; exact Nat.le_trans (Nat.min_le_right _ _) (by decide))) (fun y hy => by obtain ⟨c, _, rfl⟩ := List.mem_map.mp hy; exact Nat.le_succ 1)
    intro t' k'
    (repeat' (first | (k_unfold; (try dsimp only)) | (k_end; wrow_close) | ((with_reducible show wpAny _ _ (eval (.ListComp ..) _) _ _ _); with_reducible ((k_here; k_dflt (refine ListComp_PT (by k_asm) (by with_unfolding_all rfl) (by decide) (by rfl) (by decide) (by rfl) (by rfl) (by decide) ?_)))) | ((with_reducible show LeaveO ..); with_reducible ((k_dflt (refine' LeaveO.intro ?k1 ?k2 ?_; (case k1 => k_asm); (case k2 => k_asm); k_whole; (try dsimp only))))) | walk1 | (dsimp only; walk1) | (leave1; walk_say "STEP leave1"; try dsimp only) | fail "no step"); (all_goals (try k_data)))
    refine RStr.mk ?_
    rw [join_sel]
    rfl
end Mine
namespace Mine
set_option maxRecDepth 100000
set_option maxHeartbeats 8000000
theorem fillK5 : (fun (_ : OpenLaw) (_ : Params → Frag) => True) PySem.Challenge.rw_oj0022_01 Mine.KF := by
  k_fill
  trivial
/-- a pair of texts comes back -/
noncomputable def RPair (a b : Str) (r : Value) (own' : List (Addr × Obj)) : Prop := ∃ (T : Addr) (u1 u2 : Tok), r = .ref T ∧ (T, ({ cls := .type "tuple", data := .seq #[.str a u1, .str b u2] } : Obj)) ∈ own'
theorem pairNews {h₀ h : Heap} {L : Addr} {own news : List (Addr × Obj)} {p : Addr × Obj} (N : News h₀ L h (own ++ news)) (hm : p ∈ own) : News h₀ L h (p :: news) := fun q hq => by
  rcases List.mem_cons.mp hq with rfl | hq
  · exact N _ (List.mem_append_left _ hm)
  · exact N _ (List.mem_append_right _ hq)
theorem RPair.use {f : Addr} {d u : Nat} {vs : List Value} {x y : Str} (C : Calls f d u vs [] (RPair x y)) {w : World} {mean : ExcName → Option Value} {mg mb : Str → Option Value} {dp un : Nat} {gd : Option (List Code)} {cn : Str} {cs : Scope} {a : Addr} {ccd : Value} {cl : List (Str × Addr)} {outer : List Env} {A₀ : Around} {base h₀ : Heap} {L : Addr} {m : Str → Option Value} {s : Shared} {Q E : Value → Shared → Prop} {news : List (Addr × Obj)}
    (B : Below A₀ base outer h₀) (F : Fr h₀ L s.heap m) (X : (KF w.params).In h₀) (N : News h₀ L s.heap news) (T : Top hd.view_39 LL mean mg mb h₀) (hk : cs.kind = .function) (hdp : dp + d < recursionLimit) (hun : un + u < cLine)
    (ret : ∀ (T : Addr) (u1 u2 : Tok) (h' : Heap) (tk' : Nat), (∀ q ∈ news, q.1 ≠ T) → Fr h₀ L h' m → News h₀ L h' ((T, ({ cls := .type "tuple", data := .seq #[.str x u1, .str y u2] } : Obj)) :: news) → Q (.ref T) { s with heap := h', toks := tk' }) : wpAny (model PG w) (ktrTop dp un gd cn cs L a ccd cl outer) (call (.ref f) vs) Q E s :=
  C.use0 B F X N T hk hdp hun fun _ _ h' tk' F' N' on ⟨T, u1, u2, e, hm⟩ => e ▸ ret T u1 u2 h' tk' (on _ hm) F' (pairNews N' hm)
theorem RPair.mk {a b a' b' : Str} {T : Addr} {u1 u2 : Tok} {own' : List (Addr × Obj)} (ea : a' = a) (eb : b' = b) (h : (T, ({ cls := .type "tuple", data := .seq #[.str a' u1, .str b' u2] } : Obj)) ∈ own') : RPair a b (.ref T) own' := ⟨T, u1, u2, rfl, by rw [← ea, ← eb]; exact h⟩
theorem getIndex_tup {prog : Program} {w : World} {A : Around} {E : Value → Shared → Prop} {s : Shared} {h₀ : Heap} {L a : Addr} {m : Str → Option Value} {items : Array Value} {n : Nat} {pl : Sem Bool} {Q : Value × List Value → Shared → Prop} (F : Fr h₀ L s.heap m) (ho : h₀.get? a = some ⟨.type "tuple", none, .seq items n, #[]⟩)
    (h : Q (.builtin "tuple.index", [.ref a]) s) : wpAny (model prog w) A (getMethod (.ref a) (Str.ofString "index") pl) Q E s :=
  getMethod_builtin (T := "tuple") ⟨_, F.keep _ _ ho, rfl⟩ PySem.F.plainAttrs_tuple PySem.F.slot_tuple_index PySem.F.type_tuple_index (fun b e => by cases e; exact ⟨_, F.keep _ _ ho, rfl⟩) h
theorem t116 {w : World} {h : Heap} (X : (KF w.params).In h) : ∃ t1 t2 t3, h.get? 116 = some ⟨.type "tuple", none, .seq (List.toArray [Value.int 9 t1, .int 13 t2, .int 27 t3]) 0, #[]⟩ ∧ IsTup h 116 (List.toArray [Value.int 9 t1, .int 13 t2, .int 27 t3]) := by
  have hO : ∃ t1 t2 t3, h.get? 116 = some ⟨.type "tuple", none, .seq (List.toArray [Value.int 9 t1, .int 13 t2, .int 27 t3]) 0, #[]⟩ := ⟨_, _, _, X _ _ (by k_is)⟩
  obtain ⟨t1, t2, t3, hO⟩ := hO
  exact ⟨t1, t2, t3, hO, _, hO, rfl, 0, rfl⟩
theorem c_ctl9 (b : Bool) (t : Tok) : Calls 149 2 16 [.int 9 t, .bool b] [] (RPair (if b then ⟨#[67]⟩ else ⟨#[]⟩) (if b then ⟨#[105]⟩ else ⟨#[84, 65, 66]⟩)) := by
  cases b
  all_goals (
    (w_top off; intro w mean mg mb dp un gd cn cs a ccd cl outer A₀ base h₀ L m s Q E B F X N T hk hdp hun hret; refine wpAny_call ?_; k_dflt first | (refine' code_own ?k1 ?k2 ?k3 ?k4 ?k5 ?kA ?kF ?kK ?k6 ?k7 ?k8 ?k9 ?kB hret ?_ ?c2 ?c3 ?c4 ?c5; ((case kA | kF => exact rfl); (case kK => assumption); (case k1 | k2 | k3 | k4 | k5 => k_asm); (case k6 | k7 => k_is); (case k8 => exact room0 hdp)); (case k9 => first | exact BindsTo.of_eq rfl | exact binds_K (by k_in) rfl (by k_is) rfl rfl rfl); (case c5 => decide); (case kB => exact locs rfl); ((case c2 | c3 | c4 => exact rfl); k_whole; clear hret B F X N T); intro g' L' h' F' N' B' X' T'; (try dsimp only); (try k_lift B'); (try k_fold)) | (refine' code_ownC ?k1 ?k2 ?k3 ?k4 ?k5 ?kA ?kF ?kK ?k6 ?k7 ?k8 ?k9 ?kB ?kD hret ?_ ?c2 ?c3 ?c4; ((case kA | kF => exact rfl); (case kK => assumption); (case k1 | k2 | k3 | k4 | k5 => k_asm); (case k6 | k7 => k_is); (case k8 => exact room0 hdp)); (case k9 => exact BindsTo.of_eq rfl); (case kB => exact rfl); (case kD => decide +kernel); ((case c2 | c3 | c4 => exact rfl); k_whole; clear hret B F X N T); intro g' L' h' tk' cells' F' N' Y' B' X' T' l1; (try k_lt l1); k_cells Y'; (try simp only [List.cons_append, List.nil_append] at N'); (try dsimp only); (try k_lift B'); (try k_fold)))
    obtain ⟨t1, t2, t3, hO, hB⟩ := t116 X'
    (repeat' (first | (k_unfold; (try dsimp only)) | (k_end; wrow_close) | ((with_reducible show wpAny _ _ (call (.builtin "tuple.index") _) _ _ _); with_reducible ((k_here; first | (refine call_tupidx 0 (IsTup.keeps (by assumption) (Fr.keep (by assumption))) (.inl ⟨rfl, rfl⟩) ?_) | (refine call_tupidx 1 (IsTup.keeps (by assumption) (Fr.keep (by assumption))) (.inr (.inl ⟨rfl, rfl⟩)) ?_) | (refine call_tupidx 2 (IsTup.keeps (by assumption) (Fr.keep (by assumption))) (.inr (.inr ⟨rfl, rfl⟩)) ?_)))) | ((with_reducible show wpAny _ _ (getMethod (.ref _) _ _) _ _ _); with_reducible ((k_here; k_dflt (refine' getIndex_tup ?F ?o ?_; (case F => k_asm); (case o => assumption); k_whole)))) | ((with_reducible show wpAny _ _ (call (.ref _) _) _ _ _); with_reducible ((o_head (RStr.use (c_ctlletter _ _ (by omega) (by omega))); walk_at "c_gI"))) | ((with_reducible show LeaveO ..); with_reducible ((k_dflt (refine' LeaveO.intro ?k1 ?k2 ?_; (case k1 => k_asm); (case k2 => k_asm); k_whole; (try dsimp only))))) | walk1 | (dsimp only; walk1) | (leave1; walk_say "STEP leave1"; try dsimp only) | fail "no step"); (all_goals (try k_data)))
    all_goals (refine' RPair.mk ?a ?b ?c; (case c => k_mem); (case a => decide +kernel); (case b => first | rfl | decide +kernel)))
theorem c_ctl13 (b : Bool) (t : Tok) : Calls 149 2 16 [.int 13 t, .bool b] [] (RPair ⟨#[]⟩ ⟨#[82, 69, 84]⟩) := by
  (w_top off; intro w mean mg mb dp un gd cn cs a ccd cl outer A₀ base h₀ L m s Q E B F X N T hk hdp hun hret; refine wpAny_call ?_; k_dflt first | (refine' code_own ?k1 ?k2 ?k3 ?k4 ?k5 ?kA ?kF ?kK ?k6 ?k7 ?k8 ?k9 ?kB hret ?_ ?c2 ?c3 ?c4 ?c5; ((case kA | kF => exact rfl); (case kK => assumption); (case k1 | k2 | k3 | k4 | k5 => k_asm); (case k6 | k7 => k_is); (case k8 => exact room0 hdp)); (case k9 => first | exact BindsTo.of_eq rfl | exact binds_K (by k_in) rfl (by k_is) rfl rfl rfl); (case c5 => decide); (case kB => exact locs rfl); ((case c2 | c3 | c4 => exact rfl); k_whole; clear hret B F X N T); intro g' L' h' F' N' B' X' T'; (try dsimp only); (try k_lift B'); (try k_fold)) | (refine' code_ownC ?k1 ?k2 ?k3 ?k4 ?k5 ?kA ?kF ?kK ?k6 ?k7 ?k8 ?k9 ?kB ?kD hret ?_ ?c2 ?c3 ?c4; ((case kA | kF => exact rfl); (case kK => assumption); (case k1 | k2 | k3 | k4 | k5 => k_asm); (case k6 | k7 => k_is); (case k8 => exact room0 hdp)); (case k9 => exact BindsTo.of_eq rfl); (case kB => exact rfl); (case kD => decide +kernel); ((case c2 | c3 | c4 => exact rfl); k_whole; clear hret B F X N T); intro g' L' h' tk' cells' F' N' Y' B' X' T' l1; (try k_lt l1); k_cells Y'; (try simp only [List.cons_append, List.nil_append] at N'); (try dsimp only); (try k_lift B'); (try k_fold)))
  obtain ⟨t1, t2, t3, hO, hB⟩ := t116 X'
  (repeat' (first | (k_unfold; (try dsimp only)) | (k_end; wrow_close) | ((with_reducible show wpAny _ _ (call (.builtin "tuple.index") _) _ _ _); with_reducible ((k_here; first | (refine call_tupidx 0 (IsTup.keeps (by assumption) (Fr.keep (by assumption))) (.inl ⟨rfl, rfl⟩) ?_) | (refine call_tupidx 1 (IsTup.keeps (by assumption) (Fr.keep (by assumption))) (.inr (.inl ⟨rfl, rfl⟩)) ?_) | (refine call_tupidx 2 (IsTup.keeps (by assumption) (Fr.keep (by assumption))) (.inr (.inr ⟨rfl, rfl⟩)) ?_)))) | ((with_reducible show wpAny _ _ (getMethod (.ref _) _ _) _ _ _); with_reducible ((k_here; k_dflt (refine' getIndex_tup ?F ?o ?_; (case F => k_asm); (case o => assumption); k_whole)))) | ((with_reducible show wpAny _ _ (call (.ref _) _) _ _ _); with_reducible ((o_head (RStr.use (c_ctlletter _ _ (by omega) (by omega))); walk_at "c_gI"))) | ((with_reducible show LeaveO ..); with_reducible ((k_dflt (refine' LeaveO.intro ?k1 ?k2 ?_; (case k1 => k_asm); (case k2 => k_asm); k_whole; (try dsimp only))))) | walk1 | (dsimp only; walk1) | (leave1; walk_say "STEP leave1"; try dsimp only) | fail "no step"); (all_goals (try k_data)))
  all_goals (refine' RPair.mk ?a ?b ?c; (case c => k_mem); (case a => decide +kernel); (case b => first | rfl | decide +kernel))
theorem c_ctl27 (b : Bool) (t : Tok) : Calls 149 2 16 [.int 27 t, .bool b] [] (RPair ⟨#[]⟩ ⟨#[69, 83, 67]⟩) := by
  (w_top off; intro w mean mg mb dp un gd cn cs a ccd cl outer A₀ base h₀ L m s Q E B F X N T hk hdp hun hret; refine wpAny_call ?_; k_dflt first | (refine' code_own ?k1 ?k2 ?k3 ?k4 ?k5 ?kA ?kF ?kK ?k6 ?k7 ?k8 ?k9 ?kB hret ?_ ?c2 ?c3 ?c4 ?c5; ((case kA | kF => exact rfl); (case kK => assumption); (case k1 | k2 | k3 | k4 | k5 => k_asm); (case k6 | k7 => k_is); (case k8 => exact room0 hdp)); (case k9 => first | exact BindsTo.of_eq rfl | exact binds_K (by k_in) rfl (by k_is) rfl rfl rfl); (case c5 => decide); (case kB => exact locs rfl); ((case c2 | c3 | c4 => exact rfl); k_whole; clear hret B F X N T); intro g' L' h' F' N' B' X' T'; (try dsimp only); (try k_lift B'); (try k_fold)) | (refine' code_ownC ?k1 ?k2 ?k3 ?k4 ?k5 ?kA ?kF ?kK ?k6 ?k7 ?k8 ?k9 ?kB ?kD hret ?_ ?c2 ?c3 ?c4; ((case kA | kF => exact rfl); (case kK => assumption); (case k1 | k2 | k3 | k4 | k5 => k_asm); (case k6 | k7 => k_is); (case k8 => exact room0 hdp)); (case k9 => exact BindsTo.of_eq rfl); (case kB => exact rfl); (case kD => decide +kernel); ((case c2 | c3 | c4 => exact rfl); k_whole; clear hret B F X N T); intro g' L' h' tk' cells' F' N' Y' B' X' T' l1; (try k_lt l1); k_cells Y'; (try simp only [List.cons_append, List.nil_append] at N'); (try dsimp only); (try k_lift B'); (try k_fold)))
  obtain ⟨t1, t2, t3, hO, hB⟩ := t116 X'
  (repeat' (first | (k_unfold; (try dsimp only)) | (k_end; wrow_close) | ((with_reducible show wpAny _ _ (call (.builtin "tuple.index") _) _ _ _); with_reducible ((k_here; first | (refine call_tupidx 0 (IsTup.keeps (by assumption) (Fr.keep (by assumption))) (.inl ⟨rfl, rfl⟩) ?_) | (refine call_tupidx 1 (IsTup.keeps (by assumption) (Fr.keep (by assumption))) (.inr (.inl ⟨rfl, rfl⟩)) ?_) | (refine call_tupidx 2 (IsTup.keeps (by assumption) (Fr.keep (by assumption))) (.inr (.inr ⟨rfl, rfl⟩)) ?_)))) | ((with_reducible show wpAny _ _ (getMethod (.ref _) _ _) _ _ _); with_reducible ((k_here; k_dflt (refine' getIndex_tup ?F ?o ?_; (case F => k_asm); (case o => assumption); k_whole)))) | ((with_reducible show wpAny _ _ (call (.ref _) _) _ _ _); with_reducible ((o_head (RStr.use (c_ctlletter _ _ (by omega) (by omega))); walk_at "c_gI"))) | ((with_reducible show LeaveO ..); with_reducible ((k_dflt (refine' LeaveO.intro ?k1 ?k2 ?_; (case k1 => k_asm); (case k2 => k_asm); k_whole; (try dsimp only))))) | walk1 | (dsimp only; walk1) | (leave1; walk_say "STEP leave1"; try dsimp only) | fail "no step"); (all_goals (try k_data)))
  all_goals (refine' RPair.mk ?a ?b ?c; (case c => k_mem); (case a => decide +kernel); (case b => first | rfl | decide +kernel))
theorem c_ctl (n : Int) (b : Bool) (t : Tok) (h0 : 0 ≤ n) (h1 : n < 32) (h9 : n ≠ 9) (h13 : n ≠ 13) (h27 : n ≠ 27) : Calls 149 2 16 [.int n t, .bool b] [] (RPair ⟨#[67]⟩ ⟨#[(if 1 ≤ n ∧ n ≤ 26 then n + 96 else n + 64).toNat]⟩) := by
  (w_top off; intro w mean mg mb dp un gd cn cs a ccd cl outer A₀ base h₀ L m s Q E B F X N T hk hdp hun hret; refine wpAny_call ?_; k_dflt first | (refine' code_own ?k1 ?k2 ?k3 ?k4 ?k5 ?kA ?kF ?kK ?k6 ?k7 ?k8 ?k9 ?kB hret ?_ ?c2 ?c3 ?c4 ?c5; ((case kA | kF => exact rfl); (case kK => assumption); (case k1 | k2 | k3 | k4 | k5 => k_asm); (case k6 | k7 => k_is); (case k8 => exact room0 hdp)); (case k9 => first | exact BindsTo.of_eq rfl | exact binds_K (by k_in) rfl (by k_is) rfl rfl rfl); (case c5 => decide); (case kB => exact locs rfl); ((case c2 | c3 | c4 => exact rfl); k_whole; clear hret B F X N T); intro g' L' h' F' N' B' X' T'; (try dsimp only); (try k_lift B'); (try k_fold)) | (refine' code_ownC ?k1 ?k2 ?k3 ?k4 ?k5 ?kA ?kF ?kK ?k6 ?k7 ?k8 ?k9 ?kB ?kD hret ?_ ?c2 ?c3 ?c4; ((case kA | kF => exact rfl); (case kK => assumption); (case k1 | k2 | k3 | k4 | k5 => k_asm); (case k6 | k7 => k_is); (case k8 => exact room0 hdp)); (case k9 => exact BindsTo.of_eq rfl); (case kB => exact rfl); (case kD => decide +kernel); ((case c2 | c3 | c4 => exact rfl); k_whole; clear hret B F X N T); intro g' L' h' tk' cells' F' N' Y' B' X' T' l1; (try k_lt l1); k_cells Y'; (try simp only [List.cons_append, List.nil_append] at N'); (try dsimp only); (try k_lift B'); (try k_fold)))
  obtain ⟨t1, t2, t3, hO, hB⟩ := t116 X'
  (repeat' (first | (k_unfold; (try dsimp only)) | (k_end; wrow_close) | ((with_reducible show wpAny _ _ (call (.builtin "tuple.index") _) _ _ _); with_reducible ((k_here; first | (refine call_tupidx 0 (IsTup.keeps (by assumption) (Fr.keep (by assumption))) (.inl ⟨rfl, rfl⟩) ?_) | (refine call_tupidx 1 (IsTup.keeps (by assumption) (Fr.keep (by assumption))) (.inr (.inl ⟨rfl, rfl⟩)) ?_) | (refine call_tupidx 2 (IsTup.keeps (by assumption) (Fr.keep (by assumption))) (.inr (.inr ⟨rfl, rfl⟩)) ?_)))) | ((with_reducible show wpAny _ _ (getMethod (.ref _) _ _) _ _ _); with_reducible ((k_here; k_dflt (refine' getIndex_tup ?F ?o ?_; (case F => k_asm); (case o => assumption); k_whole)))) | ((with_reducible show wpAny _ _ (call (.ref _) _) _ _ _); with_reducible ((o_head (RStr.use (c_ctlletter _ _ (by omega) (by omega))); walk_at "c_gI"))) | ((with_reducible show LeaveO ..); with_reducible ((k_dflt (refine' LeaveO.intro ?k1 ?k2 ?_; (case k1 => k_asm); (case k2 => k_asm); k_whole; (try dsimp only))))) | walk1 | (dsimp only; walk1) | (leave1; walk_say "STEP leave1"; try dsimp only) | fail "no step"); (all_goals (try k_data)))
  all_goals first
    | exact absurd (by assumption) h9
    | (exfalso; rename (List.any _ _ = true) => hA; simp at hA; omega)
    | (refine' RPair.mk ?a ?b ?c; (case c => k_mem); (case a => decide +kernel); (case b => first | rfl | decide +kernel))
end Mine
namespace Mine
set_option maxRecDepth 100000
set_option maxHeartbeats 8000000
theorem fillK6 : (fun (_ : OpenLaw) (_ : Params → Frag) => True) PySem.Challenge.rw_oj0022_01 Mine.KF := by
  k_fill
  trivial
noncomputable def ctlT (c : Nat) (m : Bool) : List Nat × List Nat :=
  if c = 9 then (if m then ([67], [105]) else ([], [84, 65, 66])) else if c = 13 then ([], [82, 69, 84]) else if c = 27 then ([], [69, 83, 67]) else ([67], [if 1 ≤ c ∧ c ≤ 26 then c + 96 else c + 64])
noncomputable def codeL (c : Nat) : List Nat := if c = 32 then [83, 80, 67] else if c = 127 then [68, 69, 76] else [c]
/-- the text of an int key -/
noncomputable def signL (c k : Nat) : List Nat :=
  if c < 32 then ltx (ordL (klets k ++ (ctlT c (k.testBit 5)).1)) ++ (ctlT c (k.testBit 5)).2 else ltx (ordL (klets k)) ++ codeL c
theorem c_codeE (c k : Nat) (t : Tok) (h : c < 1114112) : Calls 41 1 8 [.int (ev c k) t] [] (RInt (c : Int)) := by
  have := c_codeof (ev c k) t
  rw [ev_mod h] at this
  exact this
theorem c_ctlT (c : Nat) (b : Bool) (t : Tok) (hc : c < 32) : Calls 149 2 16 [.int (c : Int) t, .bool b] [] (RPair (S (ctlT c b).1) (S (ctlT c b).2)) := by
  by_cases h9 : c = 9
  · subst h9
    have := c_ctl9 b t
    cases b <;> exact this
  by_cases h13 : c = 13
  · subst h13
    exact c_ctl13 b t
  by_cases h27 : c = 27
  · subst h27
    exact c_ctl27 b t
  have := c_ctl (c : Int) b t (by omega) (by omega) (by omega) (by omega) (by omega)
  have e : (if 1 ≤ (c : Int) ∧ (c : Int) ≤ 26 then (c : Int) + 96 else (c : Int) + 64).toNat = if 1 ≤ c ∧ c ≤ 26 then c + 96 else c + 64 := by
    by_cases h : 1 ≤ c ∧ c ≤ 26
    · rw [if_pos h, if_pos (by omega)]; omega
    · rw [if_neg h, if_neg (by omega)]; omega
  rw [e] at this
  have e1 : (⟨#[67]⟩ : Str) = S (ctlT c b).1 := by unfold ctlT; rw [if_neg h9, if_neg h13, if_neg h27]; rfl
  have e2 : (⟨#[if 1 ≤ c ∧ c ≤ 26 then c + 96 else c + 64]⟩ : Str) = S (ctlT c b).2 := by unfold ctlT; rw [if_neg h9, if_neg h13, if_neg h27]; rfl
  rw [← e1, ← e2]
  exact this
theorem c_codetextN (c : Nat) (t : Tok) (h : c < 1114112) : Calls 142 1 8 [.int (c : Int) t] [] (RStr (S (codeL c))) := by
  have := c_codetext (c : Int) t (by omega) (by omega)
  have e : (if (c : Int) = 32 then ("SPC" : Str) else if (c : Int) = 127 then ("DEL" : Str) else (⟨#[(c : Int).toNat]⟩ : Str)) = S (codeL c) := by
    unfold codeL
    by_cases h1 : c = 32
    · rw [if_pos h1, if_pos (by omega)]; decide +kernel
    rw [if_neg h1, if_neg (by omega)]
    by_cases h2 : c = 127
    · rw [if_pos h2, if_pos (by omega)]; decide +kernel
    rw [if_neg h2, if_neg (by omega), Int.toNat_natCast]
    rfl
  rw [e] at this
  exact this
theorem len_ltx (l : List Nat) : (ltx (ordL l)).length ≤ 12 := by rw [ltx_length]; have := ordL_length l; omega
theorem len_klets (k : Nat) : (klets k).length ≤ 6 := List.length_filter_le _ _
theorem len_codeL (c : Nat) : (codeL c).length ≤ 3 := by unfold codeL; split; exact Nat.le_refl 3; split; exact Nat.le_refl 3; exact Nat.le_of_ble_eq_true rfl
theorem len_ctl1 (c : Nat) (b : Bool) : (ctlT c b).1.length ≤ 3 := by unfold ctlT; (repeat' split) <;> exact Nat.le_of_ble_eq_true rfl
theorem len_ctl2 (c : Nat) (b : Bool) : (ctlT c b).2.length ≤ 3 := by unfold ctlT; (repeat' split) <;> exact Nat.le_of_ble_eq_true rfl
local macro_rules | `(tactic| walk_at "binaryOp Add") => `(tactic| (k_here; (first
  | refine add_S (Nat.le_trans (Nat.add_le_add (len_klets _) (len_ctl1 _ _)) (by decide)) ?_
  | refine add_S (Nat.le_trans (Nat.add_le_add (len_ltx _) (len_ctl2 _ _)) (by decide)) ?_
  | refine add_S (Nat.le_trans (Nat.add_le_add (len_ltx _) (len_codeL _)) (by decide)) ?_); intro _ _))
theorem meta_is {c k : Nat} (hc : c < 1114112) : (Builtin.bitAnd (ev c k) 134217728 != 0) = k.testBit 5 := by
  have h := and_ev (c := c) (k := k) (j := 5) hc
  rw [show ((2 ^ (22 + 5) : Nat) : Int) = 134217728 from by decide] at h
  rw [h]
  cases k.testBit 5 <;> decide
theorem c_signtext (c k : Nat) (t : Tok) (v : VK c k) : Calls 156 3 32 [.int (ev c k) t] [] (RStr (S (signL c k))) := by
  have hn := ev_nonneg c k
  have hn2 := ev_lt v
  have hcc := v.hc
  (w_top off; intro w mean mg mb dp un gd cn cs a ccd cl outer A₀ base h₀ L m s Q E B F X N T hk hdp hun hret; refine wpAny_call ?_; k_dflt first | (refine' code_own ?k1 ?k2 ?k3 ?k4 ?k5 ?kA ?kF ?kK ?k6 ?k7 ?k8 ?k9 ?kB hret ?_ ?c2 ?c3 ?c4 ?c5; ((case kA | kF => exact rfl); (case kK => assumption); (case k1 | k2 | k3 | k4 | k5 => k_asm); (case k6 | k7 => k_is); (case k8 => exact room0 hdp)); (case k9 => first | exact BindsTo.of_eq rfl | exact binds_K (by k_in) rfl (by k_is) rfl rfl rfl); (case c5 => decide); (case kB => exact locs rfl); ((case c2 | c3 | c4 => exact rfl); k_whole; clear hret B F X N T); intro g' L' h' F' N' B' X' T'; (try dsimp only); (try k_lift B'); (try k_fold)) | (refine' code_ownC ?k1 ?k2 ?k3 ?k4 ?k5 ?kA ?kF ?kK ?k6 ?k7 ?k8 ?k9 ?kB ?kD hret ?_ ?c2 ?c3 ?c4; ((case kA | kF => exact rfl); (case kK => assumption); (case k1 | k2 | k3 | k4 | k5 => k_asm); (case k6 | k7 => k_is); (case k8 => exact room0 hdp)); (case k9 => exact BindsTo.of_eq rfl); (case kB => exact rfl); (case kD => decide +kernel); ((case c2 | c3 | c4 => exact rfl); k_whole; clear hret B F X N T); intro g' L' h' tk' cells' F' N' Y' B' X' T' l1; (try k_lt l1); k_cells Y'; (try simp only [List.cons_append, List.nil_append] at N'); (try dsimp only); (try k_lift B'); (try k_fold)))
  (repeat' (first | (k_unfold; (try dsimp only)) | (k_end; wrow_close) | ((with_reducible show wpAny _ _ (call (.ref _) _) _ _ _); with_reducible (first | (o_head (RInt.use (c_codeE _ _ _ (by first | assumption | exact VK.hc (by assumption)))); walk_at "c_gI") | (o_head (RStr.use (c_bitletters _ _ _ (by assumption))); walk_at "c_gI") | (o_head (RVal.use (c_isctl _ _)); walk_at "c_gI") | (o_head (RPair.use (c_ctlT _ _ _ (by omega))); walk_at "c_gI") | (o_head (RStr.use (c_codetextN _ _ (by first | assumption | exact VK.hc (by assumption)))); walk_at "c_gI") | (o_head (RStr.use (c_letterstext _ _)); walk_at "c_gI"))) | ((with_reducible show LeaveO ..); with_reducible ((k_dflt (refine' LeaveO.intro ?k1 ?k2 ?_; (case k1 => k_asm); (case k2 => k_asm); k_whole; (try dsimp only))))) | walk1 | (dsimp only; walk1) | (leave1; walk_say "STEP leave1"; try dsimp only) | fail "no step"); (all_goals (try k_data)))
  · refine RStr.mk ?_
    rw [meta_is hcc]
    unfold signL
    rw [if_pos (by omega)]
    rfl
  · refine RStr.mk ?_
    unfold signL
    rw [if_neg (by omega)]
    rfl
end Mine
namespace Mine
set_option maxRecDepth 100000
set_option maxHeartbeats 8000000
theorem fillK7 : (fun (_ : OpenLaw) (_ : Params → Frag) => True) PySem.Challenge.rw_oj0022_01 Mine.KF := by
  k_fill
  trivial
/-- where the loop of split_name stands -/
noncomputable def JW (L nm : List Nat) (m₀ : Str → Option Value) (n : Nat) (m : Str → Option Value) (nw : List (Addr × Obj)) : Prop :=
  nw = [] ∧ ∃ P R u1 u2, P ++ R = L ∧ n = R.length ∧ m = fun y => if y = Str.ofString "name" then some (.str (S (ltx R ++ nm)) u1) else if y = Str.ofString "letters" then some (.str (S P) u2) else m₀ y
/-- the name proper is left alone -/
noncomputable def Stop (nm : List Nat) : Prop := nm.length ≤ 2 ∨ ∃ a b r, nm = a :: b :: r ∧ b ≠ 45
theorem frameW {m₀ : Str → Option Value} {v v' w w' : Value} : (fun y => if y = Str.ofString "name" then some v' else if y = Str.ofString "letters" then some w' else if y = Str.ofString "name" then some v else if y = Str.ofString "letters" then some w else m₀ y) = fun y => if y = Str.ofString "name" then some v' else if y = Str.ofString "letters" then some w' else m₀ y := by
  funext y
  by_cases h1 : y = Str.ofString "name"
  · simp [h1]
  · by_cases h2 : y = Str.ofString "letters"
    · simp [h2]
    · simp [h1, h2]
local macro_rules | `(tactic| walk_at "subscriptTail") => `(tactic| (k_here; first
  | (refine itemT0 ?_; intro _ _)
  | (refine itemT1 ?_; intro _ _)
  | (refine' sliceT2 (s := ⟨_, _, _, _, _⟩) ?F ?N ?sz ?_; (case F => k_asm); (case N => k_asm); (case sz => omega); k_whole; intro _ _ _ F' N'; (try k_sweep))))
local macro_rules | `(tactic| walk_at "binaryOp Add") => `(tactic| (k_here; (refine addT (by omega) ?_); intro _ _))
theorem isL_in {c : Nat} (h : isL c) : (Builtin.Str.occurrences (Str.ofString "ACHMSs") ⟨#[c]⟩ 0 (Str.ofString "ACHMSs").length 1).isEmpty = false := by
  rcases h with rfl | rfl | rfl | rfl | rfl | rfl <;> decide +kernel
theorem frame_self {m : Str → Option Value} {v w : Value} (h1 : m (Str.ofString "name") = some v) (h2 : m (Str.ofString "letters") = some w) : m = fun y => if y = Str.ofString "name" then some v else if y = Str.ofString "letters" then some w else m y := by
  funext y
  by_cases e1 : y = Str.ofString "name"
  · simp [e1, h1]
  · by_cases e2 : y = Str.ofString "letters"
    · subst e2; simp [e1, h2]
    · simp [e1, e2]
theorem c_splitname (LL nm : List Nat) (t : Tok) (hL : ∀ x ∈ LL, isL x) (hlen : LL.length ≤ 6) (h1 : 1 ≤ nm.length) (h6 : nm.length ≤ 6) (hs : Stop nm) : Calls 60 2 16 [.str (S (ltx LL ++ nm)) t] [] (RPair (S (ordL LL)) (S nm)) := by
  (w_top off; intro w mean mg mb dp un gd cn cs a ccd cl outer A₀ base h₀ L m s Q E B F X N T hk hdp hun hret; refine wpAny_call ?_; k_dflt first | (refine' code_own ?k1 ?k2 ?k3 ?k4 ?k5 ?kA ?kF ?kK ?k6 ?k7 ?k8 ?k9 ?kB hret ?_ ?c2 ?c3 ?c4 ?c5; ((case kA | kF => exact rfl); (case kK => assumption); (case k1 | k2 | k3 | k4 | k5 => k_asm); (case k6 | k7 => k_is); (case k8 => exact room0 hdp)); (case k9 => first | exact BindsTo.of_eq rfl | exact binds_K (by k_in) rfl (by k_is) rfl rfl rfl); (case c5 => decide); (case kB => exact locs rfl); ((case c2 | c3 | c4 => exact rfl); k_whole; clear hret B F X N T); intro g' L' h' F' N' B' X' T'; (try dsimp only); (try k_lift B'); (try k_fold)) | (refine' code_ownC ?k1 ?k2 ?k3 ?k4 ?k5 ?kA ?kF ?kK ?k6 ?k7 ?k8 ?k9 ?kB ?kD hret ?_ ?c2 ?c3 ?c4; ((case kA | kF => exact rfl); (case kK => assumption); (case k1 | k2 | k3 | k4 | k5 => k_asm); (case k6 | k7 => k_is); (case k8 => exact room0 hdp)); (case k9 => exact BindsTo.of_eq rfl); (case kB => exact rfl); (case kD => decide +kernel); ((case c2 | c3 | c4 => exact rfl); k_whole; clear hret B F X N T); intro g' L' h' tk' cells' F' N' Y' B' X' T' l1; (try k_lt l1); k_cells Y'; (try simp only [List.cons_append, List.nil_append] at N'); (try dsimp only); (try k_lift B'); (try k_fold)))
  iterate 6 walk1
  rename Fr g' L' _ _ => F₁
  rename News g' L' _ _ => N₁
  refine While_inv (JW LL nm _) (n₀ := LL.length) F₁ N₁ ⟨rfl, [], LL, t, _, rfl, rfl, frame_self (by with_unfolding_all rfl) (by with_unfolding_all rfl)⟩ ?turn
  case turn =>
    rintro n m₁ nw h₂ tk₂ F₂ N₂ ⟨rfl, P, R, u1, u2, hPR, rfl, rfl⟩
    cases R with
    | nil =>
      obtain rfl : P = LL := by simpa using hPR
      rw [show ltx [] ++ nm = nm from rfl] at F₂
      rcases hs with hs | ⟨a', b', r', rfl, hb⟩
      · (repeat' (first | (k_unfold; (try dsimp only)) | (k_end; wrow_close) | ((with_reducible show wpAny _ _ (call (.ref _) _) _ _ _); with_reducible ((o_head (RStr.use (c_ordered _ _)); walk_at "c_gI"))) | ((with_reducible show wpAny _ _ (call (.builtin "len") _) _ _ _); with_reducible ((k_here; (with_reducible show wpAny _ _ (call (Value.builtin "len") [Value.str (S _) _]) _ _ _); (refine lenT (by omega) ?_); intro _ _))) | ((with_reducible show LeaveO ..); with_reducible ((k_dflt (refine' LeaveO.intro ?k1 ?k2 ?_; (case k1 => k_asm); (case k2 => k_asm); k_whole; (try dsimp only))))) | walk1 | (dsimp only; walk1) | (leave1; walk_say "STEP leave1"; try dsimp only) | fail "no step"); (all_goals (try k_data)))
        all_goals (refine' RPair.mk ?a ?b ?c; (case c => k_mem); (case a => rfl); (case b => rfl))
      · have hbl : (a' :: b' :: r').length = r'.length + 2 := rfl
        have hne : ((⟨#[b']⟩ : Str) == Str.ofString "-") = false := by rw [hyphen_is, mk_one_beq _ _, decide_eq_false hb]
        (repeat' (first | (k_unfold; (try dsimp only)) | (k_end; wrow_close) | ((with_reducible show wpAny _ _ (call (.ref _) _) _ _ _); with_reducible ((o_head (RStr.use (c_ordered _ _)); walk_at "c_gI"))) | ((with_reducible show wpAny _ _ (call (.builtin "len") _) _ _ _); with_reducible ((k_here; (with_reducible show wpAny _ _ (call (Value.builtin "len") [Value.str (S _) _]) _ _ _); (refine lenT (by omega) ?_); intro _ _))) | ((with_reducible show LeaveO ..); with_reducible ((k_dflt (refine' LeaveO.intro ?k1 ?k2 ?_; (case k1 => k_asm); (case k2 => k_asm); k_whole; (try dsimp only))))) | walk1 | (dsimp only; walk1) | (leave1; walk_say "STEP leave1"; try dsimp only) | fail "no step"); (all_goals (try k_data)))
        all_goals (refine' RPair.mk ?a ?b ?c; (case c => k_mem); (case a => rfl); (case b => rfl))
    | cons c R =>
      have hR : R.length ≤ 5 := by have := congrArg List.length hPR; simp only [List.length_append, List.length_cons] at this; omega
      have hb : (ltx R ++ nm).length ≤ 16 := by rw [List.length_append, ltx_length]; omega
      have hb1 : 1 ≤ (ltx R ++ nm).length := by rw [List.length_append]; omega
      have hbl : (c :: 45 :: (ltx R ++ nm)).length = (ltx R ++ nm).length + 2 := rfl
      rw [show ltx (c :: R) ++ nm = c :: 45 :: (ltx R ++ nm) from rfl] at F₂
      have hin := isL_in (hL c (by rw [← hPR]; simp))
      have hP : P.length ≤ 6 := by have := congrArg List.length hPR; simp only [List.length_append] at this; omega
      generalize hX : ltx R ++ nm = X at *
      (repeat' (first | (k_unfold; (try dsimp only)) | (k_end; wrow_close) | ((with_reducible show wpAny _ _ (call (.ref _) _) _ _ _); with_reducible ((o_head (RStr.use (c_ordered _ _)); walk_at "c_gI"))) | ((with_reducible show wpAny _ _ (call (.builtin "len") _) _ _ _); with_reducible ((k_here; (with_reducible show wpAny _ _ (call (Value.builtin "len") [Value.str (S _) _]) _ _ _); (refine lenT (by omega) ?_); intro _ _))) | ((with_reducible show LeaveO ..); with_reducible ((k_dflt (refine' LeaveO.intro ?k1 ?k2 ?_; (case k1 => k_asm); (case k2 => k_asm); k_whole; (try dsimp only))))) | walk1 | (dsimp only; walk1) | (leave1; walk_say "STEP leave1"; try dsimp only) | fail "no step"); (all_goals (try k_data)))
      subst hX
      refine WhileStep.intro (by k_asm) (by k_asm) (Nat.lt_succ_self R.length) ⟨rfl, P ++ [c], R, _, _, by rw [List.append_assoc]; exact hPR, rfl, frameW⟩
end Mine
namespace Mine
set_option maxRecDepth 100000
set_option maxHeartbeats 8000000
theorem fillK8 : (fun (_ : OpenLaw) (_ : Params → Frag) => True) PySem.Challenge.rw_oj0022_01 Mine.KF := by
  k_fill
  trivial
theorem lt_is : (Str.ofString "<") = S [60] := by decide +kernel
theorem gt_is : (Str.ofString ">") = S [62] := by decide +kernel
theorem ltx_ordL_len (l : List Nat) : (ltx (ordL l)).length ≤ 12 := by rw [ltx_length]; have := ordL_length l; omega
/-- how a text key is told -/
noncomputable def nameL (L nm : List Nat) (b : Bool) : List Nat := ltx (ordL (ordL L)) ++ (if b then nm else [60] ++ nm ++ [62])
local macro_rules | `(tactic| walk_at "binaryOp Add") => `(tactic| (k_here; (first
  | (rw [lt_is]; refine add_S (by show 1 + _ ≤ _; omega) ?_)
  | (rw [gt_is]; refine add_S (by show _ + 1 ≤ _; rw [List.length_append]; show 1 + _ + 1 ≤ _; omega) ?_)
  | (refine add_S (Nat.le_trans (Nat.add_le_add (ltx_ordL_len _) (by first | assumption | (show _ ≤ 8; rw [List.length_append, List.length_append]; show 1 + _ + 1 ≤ 8; omega))) (by decide)) ?_)); intro _ _))
theorem c_nametext (L nm : List Nat) (b : Bool) (t : Tok) (hL : ∀ x ∈ L, isL x) (hlen : L.length ≤ 6) (h1 : 1 ≤ nm.length) (h6 : nm.length ≤ 6) (hs : Stop nm) : Calls 163 3 32 [.str (S (ltx L ++ nm)) t, .bool b] [] (RStr (S (nameL L nm b))) := by
  cases b
  · (w_top off; intro w mean mg mb dp un gd cn cs a ccd cl outer A₀ base h₀ L m s Q E B F X N T hk hdp hun hret; refine wpAny_call ?_; k_dflt first | (refine' code_own ?k1 ?k2 ?k3 ?k4 ?k5 ?kA ?kF ?kK ?k6 ?k7 ?k8 ?k9 ?kB hret ?_ ?c2 ?c3 ?c4 ?c5; ((case kA | kF => exact rfl); (case kK => assumption); (case k1 | k2 | k3 | k4 | k5 => k_asm); (case k6 | k7 => k_is); (case k8 => exact room0 hdp)); (case k9 => first | exact BindsTo.of_eq rfl | exact binds_K (by k_in) rfl (by k_is) rfl rfl rfl); (case c5 => decide); (case kB => exact locs rfl); ((case c2 | c3 | c4 => exact rfl); k_whole; clear hret B F X N T); intro g' L' h' F' N' B' X' T'; (try dsimp only); (try k_lift B'); (try k_fold)) | (refine' code_ownC ?k1 ?k2 ?k3 ?k4 ?k5 ?kA ?kF ?kK ?k6 ?k7 ?k8 ?k9 ?kB ?kD hret ?_ ?c2 ?c3 ?c4; ((case kA | kF => exact rfl); (case kK => assumption); (case k1 | k2 | k3 | k4 | k5 => k_asm); (case k6 | k7 => k_is); (case k8 => exact room0 hdp)); (case k9 => exact BindsTo.of_eq rfl); (case kB => exact rfl); (case kD => decide +kernel); ((case c2 | c3 | c4 => exact rfl); k_whole; clear hret B F X N T); intro g' L' h' tk' cells' F' N' Y' B' X' T' l1; (try k_lt l1); k_cells Y'; (try simp only [List.cons_append, List.nil_append] at N'); (try dsimp only); (try k_lift B'); (try k_fold)))
    (repeat' (first | (k_unfold; (try dsimp only)) | (k_end; wrow_close) | ((with_reducible show wpAny _ _ (call (.ref _) _) _ _ _); with_reducible (first | (o_head (RPair.use (c_splitname _ _ _ (by assumption) (by assumption) (by assumption) (by assumption) (by assumption))); walk_at "c_gI") | (o_head (RStr.use (c_letterstext _ _)); walk_at "c_gI"))) | ((with_reducible show LeaveO ..); with_reducible ((k_dflt (refine' LeaveO.intro ?k1 ?k2 ?_; (case k1 => k_asm); (case k2 => k_asm); k_whole; (try dsimp only))))) | walk1 | (dsimp only; walk1) | (leave1; walk_say "STEP leave1"; try dsimp only) | fail "no step"); (all_goals (try k_data)))
    all_goals exact RStr.mk rfl
  · (w_top off; intro w mean mg mb dp un gd cn cs a ccd cl outer A₀ base h₀ L m s Q E B F X N T hk hdp hun hret; refine wpAny_call ?_; k_dflt first | (refine' code_own ?k1 ?k2 ?k3 ?k4 ?k5 ?kA ?kF ?kK ?k6 ?k7 ?k8 ?k9 ?kB hret ?_ ?c2 ?c3 ?c4 ?c5; ((case kA | kF => exact rfl); (case kK => assumption); (case k1 | k2 | k3 | k4 | k5 => k_asm); (case k6 | k7 => k_is); (case k8 => exact room0 hdp)); (case k9 => first | exact BindsTo.of_eq rfl | exact binds_K (by k_in) rfl (by k_is) rfl rfl rfl); (case c5 => decide); (case kB => exact locs rfl); ((case c2 | c3 | c4 => exact rfl); k_whole; clear hret B F X N T); intro g' L' h' F' N' B' X' T'; (try dsimp only); (try k_lift B'); (try k_fold)) | (refine' code_ownC ?k1 ?k2 ?k3 ?k4 ?k5 ?kA ?kF ?kK ?k6 ?k7 ?k8 ?k9 ?kB ?kD hret ?_ ?c2 ?c3 ?c4; ((case kA | kF => exact rfl); (case kK => assumption); (case k1 | k2 | k3 | k4 | k5 => k_asm); (case k6 | k7 => k_is); (case k8 => exact room0 hdp)); (case k9 => exact BindsTo.of_eq rfl); (case kB => exact rfl); (case kD => decide +kernel); ((case c2 | c3 | c4 => exact rfl); k_whole; clear hret B F X N T); intro g' L' h' tk' cells' F' N' Y' B' X' T' l1; (try k_lt l1); k_cells Y'; (try simp only [List.cons_append, List.nil_append] at N'); (try dsimp only); (try k_lift B'); (try k_fold)))
    (repeat' (first | (k_unfold; (try dsimp only)) | (k_end; wrow_close) | ((with_reducible show wpAny _ _ (call (.ref _) _) _ _ _); with_reducible (first | (o_head (RPair.use (c_splitname _ _ _ (by assumption) (by assumption) (by assumption) (by assumption) (by assumption))); walk_at "c_gI") | (o_head (RStr.use (c_letterstext _ _)); walk_at "c_gI"))) | ((with_reducible show LeaveO ..); with_reducible ((k_dflt (refine' LeaveO.intro ?k1 ?k2 ?_; (case k1 => k_asm); (case k2 => k_asm); k_whole; (try dsimp only))))) | walk1 | (dsimp only; walk1) | (leave1; walk_say "STEP leave1"; try dsimp only) | fail "no step"); (all_goals (try k_data)))
    all_goals exact RStr.mk rfl
end Mine
namespace Mine
set_option maxRecDepth 100000
set_option maxHeartbeats 8000000
theorem fillK9 : (fun (_ : OpenLaw) (_ : Params → Frag) => True) PySem.Challenge.rw_oj0022_01 Mine.KF := by
  k_fill
  trivial
theorem c_skdI (c k : Nat) (t : Tok) (v : VK c k) : Calls 171 4 40 [.int (ev c k) t] [] (RStr (S (signL c k))) := by
  (w_top off; intro w mean mg mb dp un gd cn cs a ccd cl outer A₀ base h₀ L m s Q E B F X N T hk hdp hun hret; refine wpAny_call ?_; k_dflt first | (refine' code_own ?k1 ?k2 ?k3 ?k4 ?k5 ?kA ?kF ?kK ?k6 ?k7 ?k8 ?k9 ?kB hret ?_ ?c2 ?c3 ?c4 ?c5; ((case kA | kF => exact rfl); (case kK => assumption); (case k1 | k2 | k3 | k4 | k5 => k_asm); (case k6 | k7 => k_is); (case k8 => exact room0 hdp)); (case k9 => first | exact BindsTo.of_eq rfl | exact binds_K (by k_in) rfl (by k_is) rfl rfl rfl); (case c5 => decide); (case kB => exact locs rfl); ((case c2 | c3 | c4 => exact rfl); k_whole; clear hret B F X N T); intro g' L' h' F' N' B' X' T'; (try dsimp only); (try k_lift B'); (try k_fold)) | (refine' code_ownC ?k1 ?k2 ?k3 ?k4 ?k5 ?kA ?kF ?kK ?k6 ?k7 ?k8 ?k9 ?kB ?kD hret ?_ ?c2 ?c3 ?c4; ((case kA | kF => exact rfl); (case kK => assumption); (case k1 | k2 | k3 | k4 | k5 => k_asm); (case k6 | k7 => k_is); (case k8 => exact room0 hdp)); (case k9 => exact BindsTo.of_eq rfl); (case kB => exact rfl); (case kD => decide +kernel); ((case c2 | c3 | c4 => exact rfl); k_whole; clear hret B F X N T); intro g' L' h' tk' cells' F' N' Y' B' X' T' l1; (try k_lt l1); k_cells Y'; (try simp only [List.cons_append, List.nil_append] at N'); (try dsimp only); (try k_lift B'); (try k_fold)))
  (repeat' (first | (k_unfold; (try dsimp only)) | (k_end; wrow_close) | ((with_reducible show wpAny _ _ (call (.ref _) _) _ _ _); with_reducible (first | (o_head (RVal.use (c_issignI _ _)); walk_at "c_gI") | (o_head (RVal.use (c_issignS _ _)); walk_at "c_gI") | (o_head (RStr.use (c_signtext _ _ _ (by assumption))); walk_at "c_gI") | (o_head (RStr.use (c_nametext _ _ _ _ (by assumption) (by assumption) (by assumption) (by assumption) (by assumption))); walk_at "c_gI") | (o_head (RVal.use (c_isctl _ _)); walk_at "c_gI"))) | ((with_reducible show LeaveO ..); with_reducible ((k_dflt (refine' LeaveO.intro ?k1 ?k2 ?_; (case k1 => k_asm); (case k2 => k_asm); k_whole; (try dsimp only))))) | walk1 | (dsimp only; walk1) | (leave1; walk_say "STEP leave1"; try dsimp only) | fail "no step"); (all_goals (try k_data)))
  all_goals exact RStr.mk rfl
theorem c_skdI2 (c k : Nat) (b : Bool) (t : Tok) (v : VK c k) : Calls 171 4 40 [.int (ev c k) t, .bool b] [] (RStr (S (signL c k))) := by
  (w_top off; intro w mean mg mb dp un gd cn cs a ccd cl outer A₀ base h₀ L m s Q E B F X N T hk hdp hun hret; refine wpAny_call ?_; k_dflt first | (refine' code_own ?k1 ?k2 ?k3 ?k4 ?k5 ?kA ?kF ?kK ?k6 ?k7 ?k8 ?k9 ?kB hret ?_ ?c2 ?c3 ?c4 ?c5; ((case kA | kF => exact rfl); (case kK => assumption); (case k1 | k2 | k3 | k4 | k5 => k_asm); (case k6 | k7 => k_is); (case k8 => exact room0 hdp)); (case k9 => first | exact BindsTo.of_eq rfl | exact binds_K (by k_in) rfl (by k_is) rfl rfl rfl); (case c5 => decide); (case kB => exact locs rfl); ((case c2 | c3 | c4 => exact rfl); k_whole; clear hret B F X N T); intro g' L' h' F' N' B' X' T'; (try dsimp only); (try k_lift B'); (try k_fold)) | (refine' code_ownC ?k1 ?k2 ?k3 ?k4 ?k5 ?kA ?kF ?kK ?k6 ?k7 ?k8 ?k9 ?kB ?kD hret ?_ ?c2 ?c3 ?c4; ((case kA | kF => exact rfl); (case kK => assumption); (case k1 | k2 | k3 | k4 | k5 => k_asm); (case k6 | k7 => k_is); (case k8 => exact room0 hdp)); (case k9 => exact BindsTo.of_eq rfl); (case kB => exact rfl); (case kD => decide +kernel); ((case c2 | c3 | c4 => exact rfl); k_whole; clear hret B F X N T); intro g' L' h' tk' cells' F' N' Y' B' X' T' l1; (try k_lt l1); k_cells Y'; (try simp only [List.cons_append, List.nil_append] at N'); (try dsimp only); (try k_lift B'); (try k_fold)))
  (repeat' (first | (k_unfold; (try dsimp only)) | (k_end; wrow_close) | ((with_reducible show wpAny _ _ (call (.ref _) _) _ _ _); with_reducible (first | (o_head (RVal.use (c_issignI _ _)); walk_at "c_gI") | (o_head (RVal.use (c_issignS _ _)); walk_at "c_gI") | (o_head (RStr.use (c_signtext _ _ _ (by assumption))); walk_at "c_gI") | (o_head (RStr.use (c_nametext _ _ _ _ (by assumption) (by assumption) (by assumption) (by assumption) (by assumption))); walk_at "c_gI") | (o_head (RVal.use (c_isctl _ _)); walk_at "c_gI"))) | ((with_reducible show LeaveO ..); with_reducible ((k_dflt (refine' LeaveO.intro ?k1 ?k2 ?_; (case k1 => k_asm); (case k2 => k_asm); k_whole; (try dsimp only))))) | walk1 | (dsimp only; walk1) | (leave1; walk_say "STEP leave1"; try dsimp only) | fail "no step"); (all_goals (try k_data)))
  all_goals exact RStr.mk rfl
theorem c_skdS (L nm : List Nat) (t : Tok) (hL : ∀ x ∈ L, isL x) (hlen : L.length ≤ 6) (h1 : 1 ≤ nm.length) (h6 : nm.length ≤ 6) (hs : Stop nm) : Calls 171 4 40 [.str (S (ltx L ++ nm)) t] [] (RStr (S (nameL L nm false))) := by
  (w_top off; intro w mean mg mb dp un gd cn cs a ccd cl outer A₀ base h₀ L m s Q E B F X N T hk hdp hun hret; refine wpAny_call ?_; k_dflt first | (refine' code_own ?k1 ?k2 ?k3 ?k4 ?k5 ?kA ?kF ?kK ?k6 ?k7 ?k8 ?k9 ?kB hret ?_ ?c2 ?c3 ?c4 ?c5; ((case kA | kF => exact rfl); (case kK => assumption); (case k1 | k2 | k3 | k4 | k5 => k_asm); (case k6 | k7 => k_is); (case k8 => exact room0 hdp)); (case k9 => first | exact BindsTo.of_eq rfl | exact binds_K (by k_in) rfl (by k_is) rfl rfl rfl); (case c5 => decide); (case kB => exact locs rfl); ((case c2 | c3 | c4 => exact rfl); k_whole; clear hret B F X N T); intro g' L' h' F' N' B' X' T'; (try dsimp only); (try k_lift B'); (try k_fold)) | (refine' code_ownC ?k1 ?k2 ?k3 ?k4 ?k5 ?kA ?kF ?kK ?k6 ?k7 ?k8 ?k9 ?kB ?kD hret ?_ ?c2 ?c3 ?c4; ((case kA | kF => exact rfl); (case kK => assumption); (case k1 | k2 | k3 | k4 | k5 => k_asm); (case k6 | k7 => k_is); (case k8 => exact room0 hdp)); (case k9 => exact BindsTo.of_eq rfl); (case kB => exact rfl); (case kD => decide +kernel); ((case c2 | c3 | c4 => exact rfl); k_whole; clear hret B F X N T); intro g' L' h' tk' cells' F' N' Y' B' X' T' l1; (try k_lt l1); k_cells Y'; (try simp only [List.cons_append, List.nil_append] at N'); (try dsimp only); (try k_lift B'); (try k_fold)))
  (repeat' (first | (k_unfold; (try dsimp only)) | (k_end; wrow_close) | ((with_reducible show wpAny _ _ (call (.ref _) _) _ _ _); with_reducible (first | (o_head (RVal.use (c_issignI _ _)); walk_at "c_gI") | (o_head (RVal.use (c_issignS _ _)); walk_at "c_gI") | (o_head (RStr.use (c_signtext _ _ _ (by assumption))); walk_at "c_gI") | (o_head (RStr.use (c_nametext _ _ _ _ (by assumption) (by assumption) (by assumption) (by assumption) (by assumption))); walk_at "c_gI") | (o_head (RVal.use (c_isctl _ _)); walk_at "c_gI"))) | ((with_reducible show LeaveO ..); with_reducible ((k_dflt (refine' LeaveO.intro ?k1 ?k2 ?_; (case k1 => k_asm); (case k2 => k_asm); k_whole; (try dsimp only))))) | walk1 | (dsimp only; walk1) | (leave1; walk_say "STEP leave1"; try dsimp only) | fail "no step"); (all_goals (try k_data)))
  all_goals exact RStr.mk rfl
theorem c_skdS2 (L nm : List Nat) (b : Bool) (t : Tok) (hL : ∀ x ∈ L, isL x) (hlen : L.length ≤ 6) (h1 : 1 ≤ nm.length) (h6 : nm.length ≤ 6) (hs : Stop nm) : Calls 171 4 40 [.str (S (ltx L ++ nm)) t, .bool b] [] (RStr (S (nameL L nm b))) := by
  (w_top off; intro w mean mg mb dp un gd cn cs a ccd cl outer A₀ base h₀ L m s Q E B F X N T hk hdp hun hret; refine wpAny_call ?_; k_dflt first | (refine' code_own ?k1 ?k2 ?k3 ?k4 ?k5 ?kA ?kF ?kK ?k6 ?k7 ?k8 ?k9 ?kB hret ?_ ?c2 ?c3 ?c4 ?c5; ((case kA | kF => exact rfl); (case kK => assumption); (case k1 | k2 | k3 | k4 | k5 => k_asm); (case k6 | k7 => k_is); (case k8 => exact room0 hdp)); (case k9 => first | exact BindsTo.of_eq rfl | exact binds_K (by k_in) rfl (by k_is) rfl rfl rfl); (case c5 => decide); (case kB => exact locs rfl); ((case c2 | c3 | c4 => exact rfl); k_whole; clear hret B F X N T); intro g' L' h' F' N' B' X' T'; (try dsimp only); (try k_lift B'); (try k_fold)) | (refine' code_ownC ?k1 ?k2 ?k3 ?k4 ?k5 ?kA ?kF ?kK ?k6 ?k7 ?k8 ?k9 ?kB ?kD hret ?_ ?c2 ?c3 ?c4; ((case kA | kF => exact rfl); (case kK => assumption); (case k1 | k2 | k3 | k4 | k5 => k_asm); (case k6 | k7 => k_is); (case k8 => exact room0 hdp)); (case k9 => exact BindsTo.of_eq rfl); (case kB => exact rfl); (case kD => decide +kernel); ((case c2 | c3 | c4 => exact rfl); k_whole; clear hret B F X N T); intro g' L' h' tk' cells' F' N' Y' B' X' T' l1; (try k_lt l1); k_cells Y'; (try simp only [List.cons_append, List.nil_append] at N'); (try dsimp only); (try k_lift B'); (try k_fold)))
  (repeat' (first | (k_unfold; (try dsimp only)) | (k_end; wrow_close) | ((with_reducible show wpAny _ _ (call (.ref _) _) _ _ _); with_reducible (first | (o_head (RVal.use (c_issignI _ _)); walk_at "c_gI") | (o_head (RVal.use (c_issignS _ _)); walk_at "c_gI") | (o_head (RStr.use (c_signtext _ _ _ (by assumption))); walk_at "c_gI") | (o_head (RStr.use (c_nametext _ _ _ _ (by assumption) (by assumption) (by assumption) (by assumption) (by assumption))); walk_at "c_gI") | (o_head (RVal.use (c_isctl _ _)); walk_at "c_gI"))) | ((with_reducible show LeaveO ..); with_reducible ((k_dflt (refine' LeaveO.intro ?k1 ?k2 ?_; (case k1 => k_asm); (case k2 => k_asm); k_whole; (try dsimp only))))) | walk1 | (dsimp only; walk1) | (leave1; walk_say "STEP leave1"; try dsimp only) | fail "no step"); (all_goals (try k_data)))
  all_goals exact RStr.mk rfl
theorem c_ctldI (c k : Nat) (t : Tok) (v : VK c k) : Calls 185 2 16 [.int (ev c k) t] [] (RVal (.bool (Builtin.bitAnd (ev c k) 67108864 != 0))) := by
  have hn := ev_nonneg c k
  have hn2 := ev_lt v
  (w_top off; intro w mean mg mb dp un gd cn cs a ccd cl outer A₀ base h₀ L m s Q E B F X N T hk hdp hun hret; refine wpAny_call ?_; k_dflt first | (refine' code_own ?k1 ?k2 ?k3 ?k4 ?k5 ?kA ?kF ?kK ?k6 ?k7 ?k8 ?k9 ?kB hret ?_ ?c2 ?c3 ?c4 ?c5; ((case kA | kF => exact rfl); (case kK => assumption); (case k1 | k2 | k3 | k4 | k5 => k_asm); (case k6 | k7 => k_is); (case k8 => exact room0 hdp)); (case k9 => first | exact BindsTo.of_eq rfl | exact binds_K (by k_in) rfl (by k_is) rfl rfl rfl); (case c5 => decide); (case kB => exact locs rfl); ((case c2 | c3 | c4 => exact rfl); k_whole; clear hret B F X N T); intro g' L' h' F' N' B' X' T'; (try dsimp only); (try k_lift B'); (try k_fold)) | (refine' code_ownC ?k1 ?k2 ?k3 ?k4 ?k5 ?kA ?kF ?kK ?k6 ?k7 ?k8 ?k9 ?kB ?kD hret ?_ ?c2 ?c3 ?c4; ((case kA | kF => exact rfl); (case kK => assumption); (case k1 | k2 | k3 | k4 | k5 => k_asm); (case k6 | k7 => k_is); (case k8 => exact room0 hdp)); (case k9 => exact BindsTo.of_eq rfl); (case kB => exact rfl); (case kD => decide +kernel); ((case c2 | c3 | c4 => exact rfl); k_whole; clear hret B F X N T); intro g' L' h' tk' cells' F' N' Y' B' X' T' l1; (try k_lt l1); k_cells Y'; (try simp only [List.cons_append, List.nil_append] at N'); (try dsimp only); (try k_lift B'); (try k_fold)))
  (repeat' (first | (k_unfold; (try dsimp only)) | (k_end; wrow_close) | ((with_reducible show wpAny _ _ (call (.ref _) _) _ _ _); with_reducible (first | (o_head (RVal.use (c_issignI _ _)); walk_at "c_gI") | (o_head (RVal.use (c_issignS _ _)); walk_at "c_gI") | (o_head (RStr.use (c_signtext _ _ _ (by assumption))); walk_at "c_gI") | (o_head (RStr.use (c_nametext _ _ _ _ (by assumption) (by assumption) (by assumption) (by assumption) (by assumption))); walk_at "c_gI") | (o_head (RVal.use (c_isctl _ _)); walk_at "c_gI"))) | ((with_reducible show LeaveO ..); with_reducible ((k_dflt (refine' LeaveO.intro ?k1 ?k2 ?_; (case k1 => k_asm); (case k2 => k_asm); k_whole; (try dsimp only))))) | walk1 | (dsimp only; walk1) | (leave1; walk_say "STEP leave1"; try dsimp only) | fail "no step"); (all_goals (try k_data)))
  all_goals exact RVal.mk
theorem c_ctldS (x : Str) (t : Tok) : Calls 185 2 16 [.str x t] [] (RVal (.bool false)) := by
  (w_top off; intro w mean mg mb dp un gd cn cs a ccd cl outer A₀ base h₀ L m s Q E B F X N T hk hdp hun hret; refine wpAny_call ?_; k_dflt first | (refine' code_own ?k1 ?k2 ?k3 ?k4 ?k5 ?kA ?kF ?kK ?k6 ?k7 ?k8 ?k9 ?kB hret ?_ ?c2 ?c3 ?c4 ?c5; ((case kA | kF => exact rfl); (case kK => assumption); (case k1 | k2 | k3 | k4 | k5 => k_asm); (case k6 | k7 => k_is); (case k8 => exact room0 hdp)); (case k9 => first | exact BindsTo.of_eq rfl | exact binds_K (by k_in) rfl (by k_is) rfl rfl rfl); (case c5 => decide); (case kB => exact locs rfl); ((case c2 | c3 | c4 => exact rfl); k_whole; clear hret B F X N T); intro g' L' h' F' N' B' X' T'; (try dsimp only); (try k_lift B'); (try k_fold)) | (refine' code_ownC ?k1 ?k2 ?k3 ?k4 ?k5 ?kA ?kF ?kK ?k6 ?k7 ?k8 ?k9 ?kB ?kD hret ?_ ?c2 ?c3 ?c4; ((case kA | kF => exact rfl); (case kK => assumption); (case k1 | k2 | k3 | k4 | k5 => k_asm); (case k6 | k7 => k_is); (case k8 => exact room0 hdp)); (case k9 => exact BindsTo.of_eq rfl); (case kB => exact rfl); (case kD => decide +kernel); ((case c2 | c3 | c4 => exact rfl); k_whole; clear hret B F X N T); intro g' L' h' tk' cells' F' N' Y' B' X' T' l1; (try k_lt l1); k_cells Y'; (try simp only [List.cons_append, List.nil_append] at N'); (try dsimp only); (try k_lift B'); (try k_fold)))
  (repeat' (first | (k_unfold; (try dsimp only)) | (k_end; wrow_close) | ((with_reducible show wpAny _ _ (call (.ref _) _) _ _ _); with_reducible (first | (o_head (RVal.use (c_issignI _ _)); walk_at "c_gI") | (o_head (RVal.use (c_issignS _ _)); walk_at "c_gI") | (o_head (RStr.use (c_signtext _ _ _ (by assumption))); walk_at "c_gI") | (o_head (RStr.use (c_nametext _ _ _ _ (by assumption) (by assumption) (by assumption) (by assumption) (by assumption))); walk_at "c_gI") | (o_head (RVal.use (c_isctl _ _)); walk_at "c_gI"))) | ((with_reducible show LeaveO ..); with_reducible ((k_dflt (refine' LeaveO.intro ?k1 ?k2 ?_; (case k1 => k_asm); (case k2 => k_asm); k_whole; (try dsimp only))))) | walk1 | (dsimp only; walk1) | (leave1; walk_say "STEP leave1"; try dsimp only) | fail "no step"); (all_goals (try k_data)))
  all_goals exact RVal.mk
/-- how a code stands in a buffer -/
noncomputable def tcdL (c : Nat) : List Nat := if c < 32 then [94, c + 64] else if c = 127 then [94, 63] else [c]
theorem c_tcd (c : Nat) (t : Tok) (hc : c < 160) : Calls 178 2 16 [.int (c : Int) t] [] (RStr (S (tcdL c))) := by
  (w_top off; intro w mean mg mb dp un gd cn cs a ccd cl outer A₀ base h₀ L m s Q E B F X N T hk hdp hun hret; refine wpAny_call ?_; k_dflt first | (refine' code_own ?k1 ?k2 ?k3 ?k4 ?k5 ?kA ?kF ?kK ?k6 ?k7 ?k8 ?k9 ?kB hret ?_ ?c2 ?c3 ?c4 ?c5; ((case kA | kF => exact rfl); (case kK => assumption); (case k1 | k2 | k3 | k4 | k5 => k_asm); (case k6 | k7 => k_is); (case k8 => exact room0 hdp)); (case k9 => first | exact BindsTo.of_eq rfl | exact binds_K (by k_in) rfl (by k_is) rfl rfl rfl); (case c5 => decide); (case kB => exact locs rfl); ((case c2 | c3 | c4 => exact rfl); k_whole; clear hret B F X N T); intro g' L' h' F' N' B' X' T'; (try dsimp only); (try k_lift B'); (try k_fold)) | (refine' code_ownC ?k1 ?k2 ?k3 ?k4 ?k5 ?kA ?kF ?kK ?k6 ?k7 ?k8 ?k9 ?kB ?kD hret ?_ ?c2 ?c3 ?c4; ((case kA | kF => exact rfl); (case kK => assumption); (case k1 | k2 | k3 | k4 | k5 => k_asm); (case k6 | k7 => k_is); (case k8 => exact room0 hdp)); (case k9 => exact BindsTo.of_eq rfl); (case kB => exact rfl); (case kD => decide +kernel); ((case c2 | c3 | c4 => exact rfl); k_whole; clear hret B F X N T); intro g' L' h' tk' cells' F' N' Y' B' X' T' l1; (try k_lt l1); k_cells Y'; (try simp only [List.cons_append, List.nil_append] at N'); (try dsimp only); (try k_lift B'); (try k_fold)))
  (repeat' (first | (k_unfold; (try dsimp only)) | (k_end; wrow_close) | ((with_reducible show wpAny _ _ (call (.ref _) _) _ _ _); with_reducible (first | (o_head (RVal.use (c_issignI _ _)); walk_at "c_gI") | (o_head (RVal.use (c_issignS _ _)); walk_at "c_gI") | (o_head (RStr.use (c_signtext _ _ _ (by assumption))); walk_at "c_gI") | (o_head (RStr.use (c_nametext _ _ _ _ (by assumption) (by assumption) (by assumption) (by assumption) (by assumption))); walk_at "c_gI") | (o_head (RVal.use (c_isctl _ _)); walk_at "c_gI"))) | ((with_reducible show LeaveO ..); with_reducible ((k_dflt (refine' LeaveO.intro ?k1 ?k2 ?_; (case k1 => k_asm); (case k2 => k_asm); k_whole; (try dsimp only))))) | walk1 | (dsimp only; walk1) | (leave1; walk_say "STEP leave1"; try dsimp only) | fail "no step"); (all_goals (try k_data)))
  · refine RStr.mk ?_
    unfold tcdL
    rw [if_pos (by omega), show (Str.ofString "^") = S [94] from by decide +kernel, show ((c : Int) + 64).toNat = c + 64 by omega]
    exact S_append [94] [c + 64]
  · refine RStr.mk ?_
    unfold tcdL
    rw [if_neg (by omega), if_pos (by omega)]
    decide +kernel
  · refine RStr.mk ?_
    unfold tcdL
    rw [if_neg (by omega), if_neg (by omega), Int.toNat_natCast]
    rfl
end Mine
namespace Mine
set_option maxRecDepth 100000
set_option maxHeartbeats 8000000
theorem fillK10 : (fun (_ : OpenLaw) (_ : Params → Frag) => True) PySem.Challenge.rw_oj0022_01 Mine.KF := by
  k_fill
  trivial
/-- the codes that have names -/
noncomputable def NC : List (Int × Str) := [(0, Str.ofString "NUL"), (9, Str.ofString "TAB"), (10, Str.ofString "LFD"), (13, Str.ofString "RET"), (27, Str.ofString "ESC"), (32, Str.ofString "SPC"), (127, Str.ofString "DEL")]
noncomputable def codeNamed (x : Str) : Option Int := (NC.find? fun p => p.2 == x).map (·.1)
noncomputable def RNamed (x : Str) (r : Value) (_own' : List (Addr × Obj)) : Prop := match codeNamed x with
  | some i => ∃ t, r = .int i t
  | none => r = .none
theorem find_at {α : Type} {p : α → Bool} : ∀ (l : List α) (i : Nat) (a : α), l[i]? = some a → p a = true → (∀ j b, j < i → l[j]? = some b → p b = false) → l.find? p = some a
  | [], _, _, h, _, _ => nomatch h
  | b :: r, 0, a, h, ha, _ => by cases h; exact List.find?_cons_of_pos ha
  | b :: r, i + 1, a, h, ha, hn => by
    rw [List.find?_cons_of_neg (by rw [hn 0 b (Nat.succ_pos i) rfl]; decide)]
    exact find_at r i a h ha fun j c hj hc => hn (j + 1) c (Nat.succ_lt_succ hj) hc
theorem find_no {α : Type} {p : α → Bool} : ∀ (l : List α), (∀ j b, j < l.length → l[j]? = some b → p b = false) → l.find? p = none
  | [], _ => rfl
  | b :: r, hn => by
    rw [List.find?_cons_of_neg (by rw [hn 0 b (Nat.succ_pos _) rfl]; decide)]
    exact find_no r fun j c hj hc => hn (j + 1) c (Nat.succ_lt_succ hj) hc
noncomputable def JNc (x : Str) (t : Tok) (i : Nat) (m : Str → Option Value) : Prop := m (Str.ofString "name") = some (.str x t) ∧ ∀ j p, j < i → NC[j]? = some p → (p.2 == x) = false
theorem JNc.snoc {x : Str} {t : Tok} {i : Nat} {m m' : Str → Option Value} {p : Int × Str} (h : JNc x t i m) (e : m' (Str.ofString "name") = some (.str x t)) (hp : NC[i]? = some p) (hn : (p.2 == x) = false) : JNc x t (i + 1) m' :=
  ⟨e, fun j q hj hq => by
    by_cases hji : j < i
    · exact h.2 j q hji hq
    · obtain rfl : j = i := by omega
      rw [hp] at hq; cases hq; exact hn⟩
/-- a row of the table -/
noncomputable def Row (g : Heap) (i : Nat) (v : Value) : Prop := ∃ T c y u w, v = .ref T ∧ IsTup g T #[.int c u, .str y w] ∧ NC[i]? = some (c, y)
theorem rows_get {g : Heap} {v0 v1 v2 v3 v4 v5 v6 v : Value} {i : Nat} (h : ([v0, v1, v2, v3, v4, v5, v6] : List Value)[i]? = some v) (r0 : Row g 0 v0) (r1 : Row g 1 v1) (r2 : Row g 2 v2) (r3 : Row g 3 v3) (r4 : Row g 4 v4) (r5 : Row g 5 v5) (r6 : Row g 6 v6) : Row g i v := by
  have hi : i < 7 := (List.getElem?_eq_some_iff.mp h).1
  match i, hi with
  | 0, _ => cases h; exact r0
  | 1, _ => cases h; exact r1
  | 2, _ => cases h; exact r2
  | 3, _ => cases h; exact r3
  | 4, _ => cases h; exact r4
  | 5, _ => cases h; exact r5
  | 6, _ => cases h; exact r6
structure Mark10 : Prop where
  here : True
structure Hold10 (p : Prop) : Prop where
  out : p
theorem c_named (x : Str) (t : Tok) : Calls 123 1 8 [.str x t] [] (RNamed x) := by
  (w_top off; intro w mean mg mb dp un gd cn cs a ccd cl outer A₀ base h₀ L m s Q E B F X N T hk hdp hun hret; refine wpAny_call ?_; k_dflt first | (refine' code_own ?k1 ?k2 ?k3 ?k4 ?k5 ?kA ?kF ?kK ?k6 ?k7 ?k8 ?k9 ?kB hret ?_ ?c2 ?c3 ?c4 ?c5; ((case kA | kF => exact rfl); (case kK => assumption); (case k1 | k2 | k3 | k4 | k5 => k_asm); (case k6 | k7 => k_is); (case k8 => exact room0 hdp)); (case k9 => first | exact BindsTo.of_eq rfl | exact binds_K (by k_in) rfl (by k_is) rfl rfl rfl); (case c5 => decide); (case kB => exact locs rfl); ((case c2 | c3 | c4 => exact rfl); k_whole; clear hret B F X N T); intro g' L' h' F' N' B' X' T'; (try dsimp only); (try k_lift B'); (try k_fold)) | (refine' code_ownC ?k1 ?k2 ?k3 ?k4 ?k5 ?kA ?kF ?kK ?k6 ?k7 ?k8 ?k9 ?kB ?kD hret ?_ ?c2 ?c3 ?c4; ((case kA | kF => exact rfl); (case kK => assumption); (case k1 | k2 | k3 | k4 | k5 => k_asm); (case k6 | k7 => k_is); (case k8 => exact room0 hdp)); (case k9 => exact BindsTo.of_eq rfl); (case kB => exact rfl); (case kD => decide +kernel); ((case c2 | c3 | c4 => exact rfl); k_whole; clear hret B F X N T); intro g' L' h' tk' cells' F' N' Y' B' X' T' l1; (try k_lt l1); k_cells Y'; (try simp only [List.cons_append, List.nil_append] at N'); (try dsimp only); (try k_lift B'); (try k_fold)))
  (repeat' (first | (k_unfold; (try dsimp only)) | (k_end; wrow_close) | ((with_reducible show InvEnd ..); with_reducible ((k_here; refine Hold10.out ?_))) | ((with_reducible show wpAny _ _ (pyIter (.ref _)) _ _ _); with_reducible ((k_here; refine Hold10.out ?_))) | ((with_reducible show wpAny _ _ (exec (.For (.Tuple ..) (.Name ..) ..) _) _ _ _); with_reducible ((k_here; (rename Fr _ _ _ _ => lF'); (with_unfolding_all refine' For_turns lF' ?_; k_whole)))) | ((with_reducible show LeaveO ..); with_reducible ((k_dflt (refine' LeaveO.intro ?k1 ?k2 ?_; (case k1 => k_asm); (case k2 => k_asm); k_whole; (try dsimp only))))) | walk1 | (dsimp only; walk1) | (leave1; walk_say "STEP leave1"; try dsimp only) | fail "no step"); (all_goals (try k_data)))
  rename Fr _ _ _ _ => F₁
  rename News _ _ _ _ => N₁
  have row : ∀ {i : Nat} {T : Addr} {c : Int} {y : Str} {u w : Tok}, g'.get? T = some { cls := .type "tuple", data := .seq #[.int c u, .str y w] } → NC[i]? = some (c, y) → Row g' i (.ref T) := fun h e => ⟨_, _, _, _, _, rfl, ⟨_, h, rfl, 0, rfl⟩, e⟩
  refine ⟨iter_tupJ (vs := [.ref 108, .ref 109, .ref 110, .ref 111, .ref 112, .ref 113, .ref 114]) (JNc x t) (by rfl) F₁ N₁ ⟨_, X' _ _ (by k_is), rfl, 0, rfl⟩ ⟨by with_unfolding_all rfl, fun j p hj => absurd hj (Nat.not_lt_zero j)⟩ ?turn ?done⟩
  case turn =>
    clear F₁ N₁
    rintro i v m₁ h tk own hv hJ F N
    obtain ⟨T, c, y, u, w, rfl, hT, hp⟩ := rows_get hv (row (X' _ _ (by k_is)) rfl) (row (X' _ _ (by k_is)) rfl) (row (X' _ _ (by k_is)) rfl) (row (X' _ _ (by k_is)) rfl) (row (X' _ _ (by k_is)) rfl) (row (X' _ _ (by k_is)) rfl) (row (X' _ _ (by k_is)) rfl)
    have hTup := hT.keeps F.keep
    rw [setSelf hJ.1] at F
    clear hT hv row
    (repeat' (first | (k_unfold; (try dsimp only)) | (k_end; wrow_close) | ((with_reducible show InvEnd ..); with_reducible ((k_here; refine Hold10.out ?_))) | ((with_reducible show wpAny _ _ (pyIter (.ref _)) _ _ _); with_reducible ((k_here; refine Hold10.out ?_))) | ((with_reducible show wpAny _ _ (exec (.For (.Tuple ..) (.Name ..) ..) _) _ _ _); with_reducible ((k_here; (rename Fr _ _ _ _ => lF'); (with_unfolding_all refine' For_turns lF' ?_; k_whole)))) | ((with_reducible show LeaveO ..); with_reducible ((k_dflt (refine' LeaveO.intro ?k1 ?k2 ?_; (case k1 => k_asm); (case k2 => k_asm); k_whole; (try dsimp only))))) | walk1 | (dsimp only; walk1) | (leave1; walk_say "STEP leave1"; try dsimp only) | fail "no step"); (all_goals (try k_data)))
    · have e : codeNamed x = some c := by unfold codeNamed; rw [find_at NC i (c, y) hp (by assumption) hJ.2]; rfl
      unfold RNamed
      rw [e]
      exact ⟨_, rfl⟩
    · exact ⟨InvEnd.intro (by k_asm) (by k_asm) (fun p h => h) (hJ.snoc (by with_unfolding_all rfl) hp (by assumption))⟩
  case done =>
    clear F₁ N₁ row
    rintro m₁ h tk hJ F N
    have e : codeNamed x = none := by unfold codeNamed; rw [find_no NC hJ.2]; rfl
    (repeat' (first | (k_unfold; (try dsimp only)) | (k_end; wrow_close) | ((with_reducible show InvEnd ..); with_reducible ((k_here; refine Hold10.out ?_))) | ((with_reducible show wpAny _ _ (pyIter (.ref _)) _ _ _); with_reducible ((k_here; refine Hold10.out ?_))) | ((with_reducible show wpAny _ _ (exec (.For (.Tuple ..) (.Name ..) ..) _) _ _ _); with_reducible ((k_here; (rename Fr _ _ _ _ => lF'); (with_unfolding_all refine' For_turns lF' ?_; k_whole)))) | ((with_reducible show LeaveO ..); with_reducible ((k_dflt (refine' LeaveO.intro ?k1 ?k2 ?_; (case k1 => k_asm); (case k2 => k_asm); k_whole; (try dsimp only))))) | walk1 | (dsimp only; walk1) | (leave1; walk_say "STEP leave1"; try dsimp only) | fail "no step"); (all_goals (try k_data)))
    unfold RNamed
    rw [e]
end Mine
namespace Mine
set_option maxRecDepth 100000
set_option maxHeartbeats 8000000
local macro_rules | `(tactic| walk_at "pad") => `(tactic| fail "pad")
theorem fillK12 : (fun (_ : OpenLaw) (_ : Params → Frag) => True) PySem.Challenge.rw_oj0022_01 Mine.KF := by
  k_fill
  trivial
theorem isL_ord {l : List Nat} {i c : Nat} (h : (S (ordL l)).cps[i]? = some c) : isL c := by
  have h1 : c ∈ LET := (List.mem_filter.mp (List.mem_of_getElem? (S_get h))).1
  obtain ⟨i, hi⟩ := List.mem_iff_getElem?.mp h1
  exact isL_get hi
theorem c_makeI (c k : Nat) (x : Str) (t t' : Tok) (v : VK c k) : Calls 100 5 40 [.int (ev c k) t, .str x t'] [] REv := by
  (w_top off; intro w mean mg mb dp un gd cn cs a ccd cl outer A₀ base h₀ L m s Q E B F X N T hk hdp hun hret; refine wpAny_call ?_; k_dflt first | (refine' code_own ?k1 ?k2 ?k3 ?k4 ?k5 ?kA ?kF ?kK ?k6 ?k7 ?k8 ?k9 ?kB hret ?_ ?c2 ?c3 ?c4 ?c5; ((case kA | kF => exact rfl); (case kK => assumption); (case k1 | k2 | k3 | k4 | k5 => k_asm); (case k6 | k7 => k_is); (case k8 => exact room0 hdp)); (case k9 => first | exact BindsTo.of_eq rfl | exact binds_K (by k_in) rfl (by k_is) rfl rfl rfl); (case c5 => decide); (case kB => exact locs rfl); ((case c2 | c3 | c4 => exact rfl); k_whole; clear hret B F X N T); intro g' L' h' F' N' B' X' T'; (try dsimp only); (try k_lift B'); (try k_fold)) | (refine' code_ownC ?k1 ?k2 ?k3 ?k4 ?k5 ?kA ?kF ?kK ?k6 ?k7 ?k8 ?k9 ?kB ?kD hret ?_ ?c2 ?c3 ?c4; ((case kA | kF => exact rfl); (case kK => assumption); (case k1 | k2 | k3 | k4 | k5 => k_asm); (case k6 | k7 => k_is); (case k8 => exact room0 hdp)); (case k9 => exact BindsTo.of_eq rfl); (case kB => exact rfl); (case kD => decide +kernel); ((case c2 | c3 | c4 => exact rfl); k_whole; clear hret B F X N T); intro g' L' h' tk' cells' F' N' Y' B' X' T' l1; (try k_lt l1); k_cells Y'; (try simp only [List.cons_append, List.nil_append] at N'); (try dsimp only); (try k_lift B'); (try k_fold)))
  (repeat' (first | (k_unfold; (try dsimp only)) | (k_end; wrow_close) | ((with_reducible show wpAny _ _ (call (.ref _) _) _ _ _); with_reducible (first | (o_head (RVal.use (c_issignI _ _)); walk_at "c_gI") | (o_head (RVal.use (c_issignS _ _)); walk_at "c_gI") | (o_head (RStr.use (c_ordered _ _)); walk_at "c_gI") | (o_head (RPair.use (c_splitname [] _ _ (by simp) (by simp) (by assumption) (by assumption) (by assumption))); walk_at "c_gI") | (o_head (RStr.use (c_joinname _ _ _ _ (by assumption))); walk_at "c_gI") | (o_head (REv.use (c_withletter _ _ _ _ _ (by assumption) (by assumption))); walk_at "c_gI"))) | ((with_reducible show wpAny _ _ (exec (.For (.Name ..) (.Call ..) ..) _) _ _ _); with_reducible ((k_here; (rename Fr _ _ _ _ => lF'); (with_unfolding_all refine' For_invVF lF' ?k1 ?k2 ?_; (case k1 => exact rfl); (case k2 => exact rfl); k_whole)))) | ((with_reducible show LeaveO ..); with_reducible ((k_dflt (refine' LeaveO.intro ?k1 ?k2 ?_; (case k1 => k_asm); (case k2 => k_asm); k_whole; (try dsimp only))))) | walk1 | (dsimp only; walk1) | (leave1; walk_say "STEP leave1"; try dsimp only) | fail "no step"); (all_goals (try k_data)))
  rename Fr _ _ _ _ => F₁
  rename News _ _ _ _ => N₁
  refine iter_str1 (b := Str.ofString "base") (fun _ v => ∃ c k t, v = .int (ev c k) t ∧ VK c k) rfl F₁ N₁ (by rfl) ⟨c, k, t, rfl, v⟩ ?turn ?done
  case turn =>
    rintro i c1 u vb h tk own hc ⟨c2, k2, t2, rfl, v2⟩ F₂ N₂
    have hL := isL_ord hc
    clear F₁ N₁
    (repeat' (first | (k_unfold; (try dsimp only)) | (k_end; wrow_close) | ((with_reducible show wpAny _ _ (call (.ref _) _) _ _ _); with_reducible (first | (o_head (RVal.use (c_issignI _ _)); walk_at "c_gI") | (o_head (RVal.use (c_issignS _ _)); walk_at "c_gI") | (o_head (RStr.use (c_ordered _ _)); walk_at "c_gI") | (o_head (RPair.use (c_splitname [] _ _ (by simp) (by simp) (by assumption) (by assumption) (by assumption))); walk_at "c_gI") | (o_head (RStr.use (c_joinname _ _ _ _ (by assumption))); walk_at "c_gI") | (o_head (REv.use (c_withletter _ _ _ _ _ (by assumption) (by assumption))); walk_at "c_gI"))) | ((with_reducible show wpAny _ _ (exec (.For (.Name ..) (.Call ..) ..) _) _ _ _); with_reducible ((k_here; (rename Fr _ _ _ _ => lF'); (with_unfolding_all refine' For_invVF lF' ?k1 ?k2 ?_; (case k1 => exact rfl); (case k2 => exact rfl); k_whole)))) | ((with_reducible show LeaveO ..); with_reducible ((k_dflt (refine' LeaveO.intro ?k1 ?k2 ?_; (case k1 => k_asm); (case k2 => k_asm); k_whole; (try dsimp only))))) | walk1 | (dsimp only; walk1) | (leave1; walk_say "STEP leave1"; try dsimp only) | fail "no step"); (all_goals (try k_data)))
    exact InvEnd.intro (by k_asm) (by k_asm) (fun p h => h) ⟨⟨_, by with_unfolding_all rfl, _, _, _, rfl, by assumption⟩, fun z h1 h2 => by simp [h1, h2]⟩
  case done =>
    rintro u vb h tk ⟨c2, k2, t2, rfl, v2⟩ F₂ N₂
    clear F₁ N₁
    (repeat' (first | (k_unfold; (try dsimp only)) | (k_end; wrow_close) | ((with_reducible show wpAny _ _ (call (.ref _) _) _ _ _); with_reducible (first | (o_head (RVal.use (c_issignI _ _)); walk_at "c_gI") | (o_head (RVal.use (c_issignS _ _)); walk_at "c_gI") | (o_head (RStr.use (c_ordered _ _)); walk_at "c_gI") | (o_head (RPair.use (c_splitname [] _ _ (by simp) (by simp) (by assumption) (by assumption) (by assumption))); walk_at "c_gI") | (o_head (RStr.use (c_joinname _ _ _ _ (by assumption))); walk_at "c_gI") | (o_head (REv.use (c_withletter _ _ _ _ _ (by assumption) (by assumption))); walk_at "c_gI"))) | ((with_reducible show wpAny _ _ (exec (.For (.Name ..) (.Call ..) ..) _) _ _ _); with_reducible ((k_here; (rename Fr _ _ _ _ => lF'); (with_unfolding_all refine' For_invVF lF' ?k1 ?k2 ?_; (case k1 => exact rfl); (case k2 => exact rfl); k_whole)))) | ((with_reducible show LeaveO ..); with_reducible ((k_dflt (refine' LeaveO.intro ?k1 ?k2 ?_; (case k1 => k_asm); (case k2 => k_asm); k_whole; (try dsimp only))))) | walk1 | (dsimp only; walk1) | (leave1; walk_say "STEP leave1"; try dsimp only) | fail "no step"); (all_goals (try k_data)))
    exact ⟨_, _, _, rfl, v2⟩
theorem c_split0 (nm : List Nat) (t : Tok) (h1 : 1 ≤ nm.length) (h6 : nm.length ≤ 6) (hs : Stop nm) : Calls 60 2 16 [.str (S nm) t] [] (RPair (S []) (S nm)) :=
  c_splitname [] nm t (fun _ h => nomatch h) (Nat.zero_le _) h1 h6 hs
local macro_rules | `(tactic| walk_at "binaryOp Add") => `(tactic| (k_here; (refine add_S (l := []) (by simp only [List.length_nil]; omega) ?_); intro _ _))
theorem c_makeS (nm l : List Nat) (t t' : Tok) (hl : l.length ≤ 6) (h1 : 1 ≤ nm.length) (h6 : nm.length ≤ 6) (hs : Stop nm) : Calls 100 5 40 [.str (S nm) t, .str (S l) t'] [] (RStr (S (ltx (ordL l) ++ nm))) := by
  (w_top off; intro w mean mg mb dp un gd cn cs a ccd cl outer A₀ base h₀ L m s Q E B F X N T hk hdp hun hret; refine wpAny_call ?_; k_dflt first | (refine' code_own ?k1 ?k2 ?k3 ?k4 ?k5 ?kA ?kF ?kK ?k6 ?k7 ?k8 ?k9 ?kB hret ?_ ?c2 ?c3 ?c4 ?c5; ((case kA | kF => exact rfl); (case kK => assumption); (case k1 | k2 | k3 | k4 | k5 => k_asm); (case k6 | k7 => k_is); (case k8 => exact room0 hdp)); (case k9 => first | exact BindsTo.of_eq rfl | exact binds_K (by k_in) rfl (by k_is) rfl rfl rfl); (case c5 => decide); (case kB => exact locs rfl); ((case c2 | c3 | c4 => exact rfl); k_whole; clear hret B F X N T); intro g' L' h' F' N' B' X' T'; (try dsimp only); (try k_lift B'); (try k_fold)) | (refine' code_ownC ?k1 ?k2 ?k3 ?k4 ?k5 ?kA ?kF ?kK ?k6 ?k7 ?k8 ?k9 ?kB ?kD hret ?_ ?c2 ?c3 ?c4; ((case kA | kF => exact rfl); (case kK => assumption); (case k1 | k2 | k3 | k4 | k5 => k_asm); (case k6 | k7 => k_is); (case k8 => exact room0 hdp)); (case k9 => exact BindsTo.of_eq rfl); (case kB => exact rfl); (case kD => decide +kernel); ((case c2 | c3 | c4 => exact rfl); k_whole; clear hret B F X N T); intro g' L' h' tk' cells' F' N' Y' B' X' T' l1; (try k_lt l1); k_cells Y'; (try simp only [List.cons_append, List.nil_append] at N'); (try dsimp only); (try k_lift B'); (try k_fold)))
  (repeat' (first | (k_unfold; (try dsimp only)) | (k_end; wrow_close) | ((with_reducible show wpAny _ _ (call (.ref _) _) _ _ _); with_reducible (first | (o_head (RVal.use (c_issignS _ _)); walk_at "c_gI") | (o_head (RPair.use (c_split0 _ _ (by assumption) (by assumption) (by assumption))); walk_at "c_gI") | (o_head (RStr.use (c_joinname _ _ _ _ (by rw [S_length]; omega))); walk_at "c_gI"))) | ((with_reducible show wpAny _ _ (call (.ref _) _) _ _ _); with_reducible (first | (o_head (RVal.use (c_issignI _ _)); walk_at "c_gI") | (o_head (RVal.use (c_issignS _ _)); walk_at "c_gI") | (o_head (RStr.use (c_ordered _ _)); walk_at "c_gI") | (o_head (RPair.use (c_splitname [] _ _ (by simp) (by simp) (by assumption) (by assumption) (by assumption))); walk_at "c_gI") | (o_head (RStr.use (c_joinname _ _ _ _ (by assumption))); walk_at "c_gI") | (o_head (REv.use (c_withletter _ _ _ _ _ (by assumption) (by assumption))); walk_at "c_gI"))) | ((with_reducible show wpAny _ _ (exec (.For (.Name ..) (.Call ..) ..) _) _ _ _); with_reducible ((k_here; (rename Fr _ _ _ _ => lF'); (with_unfolding_all refine' For_invVF lF' ?k1 ?k2 ?_; (case k1 => exact rfl); (case k2 => exact rfl); k_whole)))) | ((with_reducible show LeaveO ..); with_reducible ((k_dflt (refine' LeaveO.intro ?k1 ?k2 ?_; (case k1 => k_asm); (case k2 => k_asm); k_whole; (try dsimp only))))) | walk1 | (dsimp only; walk1) | (leave1; walk_say "STEP leave1"; try dsimp only) | fail "no step"); (all_goals (try k_data)))
  exact RStr.mk (S_append _ _)
end Mine
namespace Mine
set_option maxRecDepth 100000
set_option maxHeartbeats 8000000
open LCg LCt
theorem fillK13 : (fun (_ : OpenLaw) (_ : Params → Frag) => True) PySem.Challenge.rw_oj0022_01 Mine.KF := by
  k_fill
  trivial
structure GoodNm (nm : List Nat) : Prop where
  h1 : 1 ≤ nm.length
  h6 : nm.length ≤ 6
  st : Stop nm
  hd : nm.head? ≠ some 45
/-- a key -/
noncomputable def IsKey (v : Value) : Prop := (∃ c k t, v = .int (ev c k) t ∧ VK c k) ∨ ∃ L nm t, v = .str (S (ltx (ordL L) ++ nm)) t ∧ GoodNm nm
noncomputable def RKey (P C : Addr) (r : Value) (own' : List (Addr × Obj)) : Prop := IsKey r ∧ Pot P C own'
noncomputable def RK0 (r : Value) (_own' : List (Addr × Obj)) : Prop := IsKey r
theorem base_ev (x y z : Int) (h0 : 0 ≤ x) (h1 : x < 128) : ∃ c, [x, [233, 955, 1048576].getD y.toNat 0].getD z.toNat 0 = ev c 0 ∧ VK c 0 := by
  have vk : ∀ c : Nat, c < 1114112 → VK c 0 := fun c hc => ⟨hc, by decide, fun h => by simp at h⟩
  match z.toNat with
  | 0 => exact ⟨x.toNat, by show x = _; unfold ev; omega, vk _ (by omega)⟩
  | 1 =>
    match y.toNat with
    | 0 => exact ⟨233, rfl, vk _ (by decide)⟩
    | 1 => exact ⟨955, rfl, vk _ (by decide)⟩
    | 2 => exact ⟨1048576, rfl, vk _ (by decide)⟩
    | _ + 3 => exact ⟨0, rfl, vk _ (by decide)⟩
  | _ + 2 => exact ⟨0, rfl, vk _ (by decide)⟩
theorem c_makeN (n : Int) (x : Str) (t t' : Tok) (h : ∃ c, n = ev c 0 ∧ VK c 0) : Calls 100 5 40 [.int n t, .str x t'] [] RK0 := by
  obtain ⟨c, rfl, v⟩ := h
  intro w mean mg mb dp un gd cn cs a ccd cl outer A₀ base h₀ L m s Q E B F X N T hk hdp hun hret
  exact c_makeI c 0 x t t' v w mean mg mb dp un gd cn cs a ccd cl outer A₀ base h₀ L m s Q E B F X N T hk hdp hun fun r own' h' tk' a b c d ⟨c', k', t', e, v'⟩ => hret r own' h' tk' a b c d (.inl ⟨c', k', t', e, v'⟩)
theorem c_makeW (x : Str) (l : List Nat) (t t' : Tok) (hl : l.length ≤ 6) (h : ∃ nm, x = S nm ∧ GoodNm nm) : Calls 100 5 40 [.str x t, .str (S l) t'] [] RK0 := by
  obtain ⟨nm, rfl, g⟩ := h
  intro w mean mg mb dp un gd cn cs a ccd cl outer A₀ base h₀ L m s Q E B F X N T hk hdp hun hret
  exact c_makeS nm l t t' hl g.h1 g.h6 g.st w mean mg mb dp un gd cn cs a ccd cl outer A₀ base h₀ L m s Q E B F X N T hk hdp hun fun r own' h' tk' a b c d ⟨t', e⟩ => hret r own' h' tk' a b c d (.inr ⟨l, nm, t', e, g⟩)
theorem nm_up : ∃ nm, Str.ofString "up" = S nm ∧ GoodNm nm := ⟨[117, 112], by decide +kernel, by decide, by decide, .inl (by decide), by decide⟩
theorem nm_f12 : ∃ nm, Str.ofString "f12" = S nm ∧ GoodNm nm := ⟨[102, 49, 50], by decide +kernel, by decide, by decide, .inr ⟨_, _, _, rfl, by decide⟩, by decide⟩
theorem nm_tab : ∃ nm, Str.ofString "tab" = S nm ∧ GoodNm nm := ⟨[116, 97, 98], by decide +kernel, by decide, by decide, .inr ⟨_, _, _, rfl, by decide⟩, by decide⟩
theorem nm_return : ∃ nm, Str.ofString "return" = S nm ∧ GoodNm nm := ⟨[114, 101, 116, 117, 114, 110], by decide +kernel, by decide, by decide, .inr ⟨_, _, _, rfl, by decide⟩, by decide⟩
theorem nm_x : ∃ nm, Str.ofString "x" = S nm ∧ GoodNm nm := ⟨[120], by decide +kernel, by decide, by decide, .inl (by decide), by decide⟩
theorem nm_9 : ∃ nm, Str.ofString "9" = S nm ∧ GoodNm nm := ⟨[57], by decide +kernel, by decide, by decide, .inl (by decide), by decide⟩
theorem RK0.use {f : Addr} {d u : Nat} {vs : List Value} (C : Calls f d u vs [] RK0) {w : World} {mean : ExcName → Option Value} {mg mb : Str → Option Value} {dp un : Nat} {gd : Option (List Code)} {cn : Str} {cs : Scope} {a : Addr} {ccd : Value} {cl : List (Str × Addr)} {outer : List Env} {A₀ : Around} {base h₀ : Heap} {L : Addr} {m : Str → Option Value} {s : Shared} {Q E : Value → Shared → Prop} {news : List (Addr × Obj)}
    (B : Below A₀ base outer h₀) (F : Fr h₀ L s.heap m) (X : (KF w.params).In h₀) (N : News h₀ L s.heap news) (T : Top hd.view_39 LL mean mg mb h₀) (hk : cs.kind = .function) (hdp : dp + d < recursionLimit) (hun : un + u < cLine)
    (ret : ∀ (r : Value) (h' : Heap) (tk' : Nat), IsKey r → Fr h₀ L h' m → News h₀ L h' news → Q r { s with heap := h', toks := tk' }) : wpAny (model PG w) (ktrTop dp un gd cn cs L a ccd cl outer) (call (.ref f) vs) Q E s :=
  C.use0 B F X N T hk hdp hun fun r _ h' tk' F' N' _ e => ret r h' tk' e F' (News.right N')
theorem leaveKey {g h : Heap} {L : Addr} {m : Str → Option Value} {s : Shared} {P C : Addr} {v : Value} {tk : Nat} {news rest po : List (Addr × Obj)} (hP : Pot P C po) (hv : IsKey v) (F : Fr g L h m) (N : News g L h news) (hs : Splits news rest po) : LeaveO g s (RKey P C) v { s with heap := h, toks := tk } :=
  ⟨L, m, po, F, fun p hp => N p (by rw [hs.eq]; exact List.mem_append_right _ hp), ⟨_, _, rfl⟩, hv, hP⟩
noncomputable def JK (P Ce K : Addr) (oK : Obj) (i : Nat) (ys : List Value) (nw : List (Addr × Obj)) : Prop :=
  ∃ (sel : List Nat) (po : List (Addr × Obj)), TXs ys (sel.map fun c => (⟨#[c]⟩ : Str)) ∧ (∀ x ∈ sel, isL x) ∧ sel.length ≤ i ∧ Pot P Ce po ∧ nw = (K, oK) :: po
/-- a name of the menu -/
noncomputable def IsNm (v : Value) : Prop := ∃ nm t, v = .str (S nm) t ∧ GoodNm nm
theorem IsNm.of {x : Str} {t : Tok} (h : ∃ nm, x = S nm ∧ GoodNm nm) : IsNm (.str x t) := by
  obtain ⟨nm, rfl, g⟩ := h
  exact ⟨nm, t, rfl, g⟩
section
variable {prog : Program} {w : World} {A : Around} {E : Value → Shared → Prop} {s : Shared} {Q : Value → Shared → Prop} {value slice : PySem.Expr} {h₀ : Heap} {L : Addr} {m : Str → Option Value} {news : List (Addr × Obj)}
theorem nm6 {t0 t1 t2 t3 t4 t5 : Tok} : ∀ v ∈ [Value.str (Str.ofString "up") t0, .str (Str.ofString "f12") t1, .str (Str.ofString "tab") t2, .str (Str.ofString "return") t3, .str (Str.ofString "x") t4, .str (Str.ofString "9") t5], IsNm v :=
  List.forall_mem_cons.mpr ⟨IsNm.of nm_up, List.forall_mem_cons.mpr ⟨IsNm.of nm_f12, List.forall_mem_cons.mpr ⟨IsNm.of nm_tab, List.forall_mem_cons.mpr ⟨IsNm.of nm_return, List.forall_mem_cons.mpr ⟨IsNm.of nm_x, List.forall_mem_cons.mpr ⟨IsNm.of nm_9, fun _ h => nomatch h⟩⟩⟩⟩⟩⟩
theorem itemMenu {l : Addr} {vs : List Value} {n : Nat} {x : Int} {u : Tok} (N : News h₀ L s.heap news) (hm : (l, listOf vs.toArray n) ∈ news) (h0 : 0 ≤ x) (h1 : x < 6) (h6 : vs.length = 6)
    (a : ∀ v ∈ vs, IsNm v) (h : ∀ nm t, GoodNm nm → Q (.str (S nm) t) s)
    (hs : subscripted slice false (.ref l) (.int x u) = operate [.ref l, .int x u] (getItem (.ref l) (.int x u)) := by with_unfolding_all rfl) :
    wpAny (model prog w) A (subscriptTail value slice (.ref l) (.int x u)) Q E s := by
  have hl : s.heap.IsList l vs.toArray := ⟨_, (N _ hm).1, rfl, n, rfl⟩
  have hn : x.toNat < vs.length := by rw [h6]; omega
  obtain ⟨nm, t, e, g⟩ := a _ (List.getElem_mem hn)
  have hv : vs[x.toNat]? = some (.str (S nm) t) := by rw [List.getElem?_eq_getElem hn, e]
  exact tail_any hl.typeIs slot_list_getitem.lookup (wpAny_getItem_list hl h0 (Int.lt_trans h1 (by decide)) (by rw [List.getElem?_toArray]; exact hv) (h nm t g)) hs
theorem PEnd.intro {h' : Heap} {tk : Nat} {s₁ : Shared} {C D : Addr} {oC oD : Obj} {own nw : List (Addr × Obj)} {fp : List Addr} {rest : Value → List (Addr × Obj) → Prop} {y : Value} (F : Fr h₀ L h' m) (N : News h₀ L h' ((C, oC) :: (D, oD) :: (nw ++ own)))
    (off : ∀ p ∈ nw, p.1 ≠ C ∧ p.1 ≠ D ∧ p.1 ∉ fp) (r : rest y nw) : PEnd h₀ L m s₁ C oC D oD own fp rest y { s₁ with heap := h', toks := tk } := ⟨h', tk, nw, rfl, F, N, off, r⟩
theorem newsRot {h : Heap} {a b k : Addr × Obj} {own po : List (Addr × Obj)} (N : News h₀ L h (a :: b :: ((k :: po) ++ own))) : News h₀ L h (a :: b :: k :: (own ++ po)) := fun p hp => N p (by
  rcases hp with _ | ⟨_, _ | ⟨_, _ | ⟨_, hp⟩⟩⟩
  · exact List.Mem.head _
  · exact List.Mem.tail _ (List.Mem.head _)
  · exact List.Mem.tail _ (List.Mem.tail _ (List.Mem.head _))
  · exact List.Mem.tail _ (List.Mem.tail _ (List.Mem.tail _ (List.mem_append.mpr (List.mem_append.mp hp).symm))))
theorem newsRot' {h : Heap} {a b k : Addr × Obj} {own po : List (Addr × Obj)} (N : News h₀ L h (a :: b :: k :: (own ++ po))) : News h₀ L h (a :: b :: ((k :: po) ++ own)) := fun p hp => N p (by
  rcases hp with _ | ⟨_, _ | ⟨_, _ | ⟨_, hp⟩⟩⟩
  · exact List.Mem.head _
  · exact List.Mem.tail _ (List.Mem.head _)
  · exact List.Mem.tail _ (List.Mem.tail _ (List.Mem.head _))
  · exact List.Mem.tail _ (List.Mem.tail _ (List.Mem.tail _ (List.mem_append.mpr (List.mem_append.mp hp).symm))))
end
local macro_rules | `(tactic| walk_at "subscriptTail") => `(tactic| (k_here; (refine' itemMenu ?N ?m ?h0 ?h1 rfl nm6 ?_; (case N => k_asm); (case m => k_mem); (case h0 | h1 => assumption)); intro nm9 t9 g9))
theorem c_key (P Ce : Addr) (own : List (Addr × Obj)) (t : Tok) (hP : Pot P Ce own) : Calls 209 8 80 [.ref P] own (RKey P Ce) := by
  have hP' := hP
  obtain ⟨hPC, vs, ns, nn, n2, pa, sd, ta, ts, rfl, hi, hlen, h0, h2, h3⟩ := hP
  (w_top off; intro w mean mg mb dp un gd cn cs a ccd cl outer A₀ base h₀ L m s Q E B F X N T hk hdp hun hret; refine wpAny_call ?_; k_dflt first | (refine' code_own ?k1 ?k2 ?k3 ?k4 ?k5 ?kA ?kF ?kK ?k6 ?k7 ?k8 ?k9 ?kB hret ?_ ?c2 ?c3 ?c4 ?c5; ((case kA | kF => exact rfl); (case kK => assumption); (case k1 | k2 | k3 | k4 | k5 => k_asm); (case k6 | k7 => k_is); (case k8 => exact room0 hdp)); (case k9 => first | exact BindsTo.of_eq rfl | exact binds_K (by k_in) rfl (by k_is) rfl rfl rfl); (case c5 => decide); (case kB => exact locs rfl); ((case c2 | c3 | c4 => exact rfl); k_whole; clear hret B F X N T); intro g' L' h' F' N' B' X' T'; (try dsimp only); (try k_lift B'); (try k_fold)) | (refine' code_ownC ?k1 ?k2 ?k3 ?k4 ?k5 ?kA ?kF ?kK ?k6 ?k7 ?k8 ?k9 ?kB ?kD hret ?_ ?c2 ?c3 ?c4; ((case kA | kF => exact rfl); (case kK => assumption); (case k1 | k2 | k3 | k4 | k5 => k_asm); (case k6 | k7 => k_is); (case k8 => exact room0 hdp)); (case k9 => exact BindsTo.of_eq rfl); (case kB => exact rfl); (case kD => decide +kernel); ((case c2 | c3 | c4 => exact rfl); k_whole; clear hret B F X N T); intro g' L' h' tk' cells' F' N' Y' B' X' T' l1; (try k_lt l1); k_cells Y'; (try simp only [List.cons_append, List.nil_append] at N'); (try dsimp only); (try k_lift B'); (try k_fold)))
  generalize [(P, listOf #[.ref Ce, .int pa ta, .int sd ts] n2), (Ce, listOf vs.toArray nn)] = po at *
  clear hi hlen h0 h2 h3
  have kP : (@Ne Nat (L' + 1) P) := by omega
  have kCe : (@Ne Nat (L' + 1) Ce) := by omega
  have pL : (@LT.lt Nat _ P L') := by omega
  have cL : (@LT.lt Nat _ Ce L') := by omega
  clear l1
  (repeat' (first | (k_unfold; (try dsimp only)) | (k_end; wrow_close) | ((with_reducible show wpAny _ _ (call (.ref _) _) _ _ _); with_reducible (first | (o_head (RBits.use c_bits); intros) | (o_head ((RDip.useP (c_dip _ _ _ _ _ (by assumption) (by decide) (by decide)) (by assumption)), ()); walk_at "c_gD") | (o_head (RK0.use (c_makeN _ _ _ _ (base_ev _ _ _ (by assumption) (by assumption)))); walk_at "c_gI") | (o_head (RK0.use (c_makeW _ _ _ _ (by assumption) ⟨_, rfl, by assumption⟩)); walk_at "c_gI"))) | ((with_reducible show wpAny _ _ (eval (.ListComp ..) _) _ _ _); with_reducible ((k_here; k_dflt (refine ListComp_PT (by k_asm) (by with_unfolding_all rfl) (by decide) (by rfl) (by decide) (by rfl) (by rfl) (by decide) ?_)))) | ((with_reducible show LeaveO ..); with_reducible ((k_here; exact leaveKey (by assumption) (by assumption) (by k_asm) (by k_asm) (by (repeat (first | exact Splits.nil | exact Splits.app | apply Splits.cons)))))) | ((with_reducible show LeaveO ..); with_reducible ((k_dflt (refine' LeaveO.intro ?k1 ?k2 ?_; (case k1 => k_asm); (case k2 => k_asm); k_whole; (try dsimp only))))) | walk1 | (dsimp only; walk1) | (leave1; walk_say "STEP leave1"; try dsimp only) | fail "no step"); (all_goals (try k_data)))
  rename BitTups _ => hB
  rename Obj => oK
  rename Fr _ _ _ _ => F9
  rename News _ _ _ _ => N9
  refine srcPT_list (JK P Ce (L' + 1) oK) (nw₀ := (L' + 1, oK) :: po) rfl F9 N9 rfl (by assumption) (by rw [hB.len, PySem.sizeLine_eq]; decide) hB.pair ⟨[], po, TXs.nil, (fun _ h => nomatch h), Nat.le_refl _, hP', rfl⟩ ?turn ?fin
  case turn =>
    clear F9 N9 hP'
    rintro fp g i ys nw x y C9 oC D9 m₂ h tk own E' hi ⟨T, hT⟩ ⟨sel, po', hTX, hsel, hsl, hPo, rfl⟩ hoC hx hy F N hCD off hown hCf hDf
    obtain ⟨c1, v1, w1, e, hc⟩ := hB.get i T _ hT
    obtain ⟨rfl, rfl⟩ : x = .str ⟨#[c1]⟩ v1 ∧ y = .int (Bof c1) w1 := by simpa using e
    have hc1 := isL_get hc
    clear hT hi e hc hB hy
    obtain ⟨⟨oP, hPm⟩, oC2, hCm⟩ := hPo.has
    obtain ⟨pC, pD, pf⟩ := off _ (List.mem_cons_of_mem _ hPm)
    obtain ⟨cC, cD, cf⟩ := off _ (List.mem_cons_of_mem _ hCm)
    obtain ⟨kC, kD, kf⟩ := off _ List.mem_cons_self
    have pC' : (@Ne Nat C9 P) := Ne.symm pC
    have pD' : (@Ne Nat D9 P) := Ne.symm pD
    have cC' : (@Ne Nat C9 Ce) := Ne.symm cC
    have cD' : (@Ne Nat D9 Ce) := Ne.symm cD
    have ho : Off2 P Ce own := Off2.of fun p hp => ⟨fun e => pf (e ▸ hown p hp), fun e => cf (e ▸ hown p hp)⟩
    have fin : ∀ po'', Pot P Ce po'' → ∀ p ∈ (L' + 1, oK) :: po'', p.1 ≠ C9 ∧ p.1 ≠ D9 ∧ p.1 ∉ fp := by
      intro po'' hP'' p hp
      rcases List.mem_cons.mp hp with rfl | hp
      · exact ⟨kC, kD, kf⟩
      · rcases hP''.at p hp with e | e
        · rw [e]; exact ⟨pC, pD, pf⟩
        · rw [e]; exact ⟨cC, cD, cf⟩
    replace N := newsRot N
    clear off hown hPm hCm pf cf kf hCf hDf hCD
    (repeat' (first | (k_unfold; (try dsimp only)) | (k_end; wrow_close) | ((with_reducible show wpAny _ _ (call (.ref _) _) _ _ _); with_reducible (first | (o_head (RBits.use c_bits); intros) | (o_head ((RDip.useP (c_dip _ _ _ _ _ (by assumption) (by decide) (by decide)) (by assumption)), ()); walk_at "c_gD") | (o_head (RK0.use (c_makeN _ _ _ _ (base_ev _ _ _ (by assumption) (by assumption)))); walk_at "c_gI") | (o_head (RK0.use (c_makeW _ _ _ _ (by assumption) ⟨_, rfl, by assumption⟩)); walk_at "c_gI"))) | ((with_reducible show wpAny _ _ (eval (.ListComp ..) _) _ _ _); with_reducible ((k_here; k_dflt (refine ListComp_PT (by k_asm) (by with_unfolding_all rfl) (by decide) (by rfl) (by decide) (by rfl) (by rfl) (by decide) ?_)))) | ((with_reducible show LeaveO ..); with_reducible ((k_here; exact leaveKey (by assumption) (by assumption) (by k_asm) (by k_asm) (by (repeat (first | exact Splits.nil | exact Splits.app | apply Splits.cons)))))) | ((with_reducible show LeaveO ..); with_reducible ((k_dflt (refine' LeaveO.intro ?k1 ?k2 ?_; (case k1 => k_asm); (case k2 => k_asm); k_whole; (try dsimp only))))) | walk1 | (dsimp only; walk1) | (leave1; walk_say "STEP leave1"; try dsimp only) | fail "no step"); (all_goals (try k_data)))
    · exact PEnd.intro (by k_asm) (newsRot' (by k_asm)) (fin _ (by assumption)) ⟨sel ++ [c1], _, hTX.snoc' (by rw [List.map_append]; rfl), fun x hx => (List.mem_append.mp hx).elim (hsel x) (fun h => by rw [List.mem_singleton.mp h]; exact hc1), by rw [List.length_append]; exact Nat.succ_le_succ hsl, by assumption, rfl⟩
    · exact PEnd.intro (by k_asm) (newsRot' (by k_asm)) (fin _ (by assumption)) ⟨sel, _, hTX, hsel, Nat.le_succ_of_le hsl, by assumption, rfl⟩
  case fin =>
    clear F9 N9 hP'
    rintro D9 h tk ys nw F N off ⟨sel, po', hTX, hsel, hsl, hPo, rfl⟩
    rw [hB.len] at hsl
    obtain ⟨⟨oP, hPm⟩, oC2, hCm⟩ := hPo.has
    have pD : (@Ne Nat D9 P) := Ne.symm (off _ (List.mem_cons_of_mem _ hPm))
    have cD : (@Ne Nat D9 Ce) := Ne.symm (off _ (List.mem_cons_of_mem _ hCm))
    clear off hPm hCm hsel hB
    (repeat' (first | (k_unfold; (try dsimp only)) | (k_end; wrow_close) | ((with_reducible show wpAny _ _ (call (.ref _) _) _ _ _); with_reducible (first | (o_head (RBits.use c_bits); intros) | (o_head ((RDip.useP (c_dip _ _ _ _ _ (by assumption) (by decide) (by decide)) (by assumption)), ()); walk_at "c_gD") | (o_head (RK0.use (c_makeN _ _ _ _ (base_ev _ _ _ (by assumption) (by assumption)))); walk_at "c_gI") | (o_head (RK0.use (c_makeW _ _ _ _ (by assumption) ⟨_, rfl, by assumption⟩)); walk_at "c_gI"))) | ((with_reducible show wpAny _ _ (eval (.ListComp ..) _) _ _ _); with_reducible ((k_here; k_dflt (refine ListComp_PT (by k_asm) (by with_unfolding_all rfl) (by decide) (by rfl) (by decide) (by rfl) (by rfl) (by decide) ?_)))) | ((with_reducible show LeaveO ..); with_reducible ((k_here; exact leaveKey (by assumption) (by assumption) (by k_asm) (by k_asm) (by (repeat (first | exact Splits.nil | exact Splits.app | apply Splits.cons)))))) | ((with_reducible show LeaveO ..); with_reducible ((k_dflt (refine' LeaveO.intro ?k1 ?k2 ?_; (case k1 => k_asm); (case k2 => k_asm); k_whole; (try dsimp only))))) | walk1 | (dsimp only; walk1) | (leave1; walk_say "STEP leave1"; try dsimp only) | fail "no step"); (all_goals (try k_data)))
    refine join_TX (by k_asm) (by k_mem) hTX ?_ ?_
    · exact joinOk_few ofString_empty (by rw [List.length_map]; exact Nat.le_trans hsl (by decide)) (fun y hy => by obtain ⟨c, _, rfl⟩ := List.mem_map.mp hy; exact Nat.le_succ 1)
    intro t' k'
    rw [join_sel]
    clear hTX
    (repeat' (first | (k_unfold; (try dsimp only)) | (k_end; wrow_close) | ((with_reducible show wpAny _ _ (call (.ref _) _) _ _ _); with_reducible (first | (o_head (RBits.use c_bits); intros) | (o_head ((RDip.useP (c_dip _ _ _ _ _ (by assumption) (by decide) (by decide)) (by assumption)), ()); walk_at "c_gD") | (o_head (RK0.use (c_makeN _ _ _ _ (base_ev _ _ _ (by assumption) (by assumption)))); walk_at "c_gI") | (o_head (RK0.use (c_makeW _ _ _ _ (by assumption) ⟨_, rfl, by assumption⟩)); walk_at "c_gI"))) | ((with_reducible show wpAny _ _ (eval (.ListComp ..) _) _ _ _); with_reducible ((k_here; k_dflt (refine ListComp_PT (by k_asm) (by with_unfolding_all rfl) (by decide) (by rfl) (by decide) (by rfl) (by rfl) (by decide) ?_)))) | ((with_reducible show LeaveO ..); with_reducible ((k_here; exact leaveKey (by assumption) (by assumption) (by k_asm) (by k_asm) (by (repeat (first | exact Splits.nil | exact Splits.app | apply Splits.cons)))))) | ((with_reducible show LeaveO ..); with_reducible ((k_dflt (refine' LeaveO.intro ?k1 ?k2 ?_; (case k1 => k_asm); (case k2 => k_asm); k_whole; (try dsimp only))))) | walk1 | (dsimp only; walk1) | (leave1; walk_say "STEP leave1"; try dsimp only) | fail "no step"); (all_goals (try k_data)))
end Mine
namespace Mine
set_option maxRecDepth 100000
noncomputable def Qs (X : List Nat) (i : Nat) : List Nat := (LET.take i).filter fun c => X.contains c
noncomputable def Rs (X : List Nat) (i : Nat) : List Nat := (LET.drop i).filter fun c => X.contains c
theorem Qs_Rs (X : List Nat) (i : Nat) : Qs X i ++ Rs X i = ordL X := by
  unfold Qs Rs ordL
  rw [← List.filter_append, List.take_append_drop]
theorem Qs_yes {X : List Nat} {i c : Nat} (h : LET[i]? = some c) (hc : X.contains c = true) : Qs X (i + 1) = Qs X i ++ [c] := take_filter h hc
theorem Qs_no {X : List Nat} {i c : Nat} (h : LET[i]? = some c) (hc : X.contains c = false) : Qs X (i + 1) = Qs X i := take_filter_no h hc
theorem drop_get {l : List Nat} {i c : Nat} (h : l[i]? = some c) : l.drop i = c :: l.drop (i + 1) := by
  obtain ⟨hi, rfl⟩ := List.getElem?_eq_some_iff.mp h
  exact List.drop_eq_getElem_cons hi
theorem Rs_yes {X : List Nat} {i c : Nat} (h : LET[i]? = some c) (hc : X.contains c = true) : Rs X i = c :: Rs X (i + 1) := by
  unfold Rs; rw [drop_get h, List.filter_cons, if_pos hc]
theorem Rs_no {X : List Nat} {i c : Nat} (h : LET[i]? = some c) (hc : X.contains c = false) : Rs X i = Rs X (i + 1) := by
  unfold Rs; rw [drop_get h, List.filter_cons, if_neg (by rw [hc]; decide)]
theorem LET_later : ∀ i : Nat, i < 6 → ∀ d ∈ LET.drop (i + 1), LET[i]? ≠ some d := by decide
theorem Rs_ne {X : List Nat} {i c : Nat} (h : LET[i]? = some c) {d : Nat} (hd : d ∈ Rs X (i + 1)) : d ≠ c := by
  intro e
  subst e
  exact LET_later i (List.getElem?_eq_some_iff.mp h).1 d (List.mem_filter.mp hd).1 h
theorem Qs_end (X : List Nat) : Qs X 6 = ordL X := rfl
theorem Rs_end (X : List Nat) : Rs X 6 = [] := rfl
theorem ltx_append (a b : List Nat) : ltx (a ++ b) = ltx a ++ ltx b := by unfold ltx; rw [List.flatMap_append]
/-- where the reader stands -/
theorem words_drop (X tl : List Nat) (i : Nat) : (ltx (ordL X) ++ tl).drop (2 * (Qs X i).length) = ltx (Rs X i) ++ tl := by
  rw [← Qs_Rs X i, ltx_append, List.append_assoc, ← ltx_length, List.drop_left]
theorem words_len (X tl : List Nat) (i : Nat) : (ltx (ordL X) ++ tl).length = 2 * (Qs X i).length + (2 * (Rs X i).length + tl.length) := by
  rw [← Qs_Rs X i, ltx_append, List.length_append, List.length_append, ltx_length, ltx_length]; omega
theorem read_yes {X tl : List Nat} {i c : Nat} (h : LET[i]? = some c) (hc : X.contains c = true) (h1 : 1 ≤ tl.length) :
    ((ltx (ordL X) ++ tl).drop (2 * (Qs X i).length)).take 2 = [c, 45] ∧ 2 * (Qs X i).length + 2 < (ltx (ordL X) ++ tl).length := by
  rw [words_drop, words_len X tl i, Rs_yes h hc]
  refine ⟨rfl, ?_⟩
  rw [List.length_cons]; omega
/-- the bits of letters, control apart -/
noncomputable def bsum : List Nat → Int
  | [] => 0
  | c :: r => (if c = 67 then 0 else Bof c) + bsum r
theorem bsum_snoc (c : Nat) : ∀ l : List Nat, bsum (l ++ [c]) = bsum l + (if c = 67 then 0 else Bof c)
  | [] => by show _ + 0 = 0 + _; omega
  | d :: r => by
    show _ + bsum (r ++ [c]) = _ + bsum r + _
    rw [bsum_snoc c r]; omega
theorem ltx_snoc (l : List Nat) (c : Nat) : ltx (l ++ [c]) = (ltx l ++ [c]) ++ [45] := by rw [ltx_append, List.append_assoc]; rfl
theorem contains_snoc (l : List Nat) (c : Nat) : (l ++ [c]).contains 67 = (l.contains 67 || decide (c = 67)) := by
  rw [Bool.eq_iff_iff, Bool.or_eq_true, decide_eq_true_eq, List.contains_iff_mem, List.contains_iff_mem, List.mem_append, List.mem_singleton]
  exact ⟨fun h => h.imp id Eq.symm, fun h => h.imp id Eq.symm⟩
open PySem.Spec in
noncomputable def dictD : List (PyData × PyData) := [(.str (Str.ofString "RET"), .int 13), (.str (Str.ofString "TAB"), .int 9), (.str (Str.ofString "ESC"), .int 27), (.str (Str.ofString "SPC"), .int 32), (.str (Str.ofString "DEL"), .int 127)]
/-- the code of a name, else -1 -/
noncomputable def codeOf (w : List Nat) : Int := if [82, 69, 84] = w then 13 else if [84, 65, 66] = w then 9 else if [69, 83, 67] = w then 27 else if [83, 80, 67] = w then 32 else if [68, 69, 76] = w then 127 else -1
theorem look_S (w : List Nat) : (PySem.Spec.lookup (.str (S w)) dictD).getD (.int (-1)) = .int (codeOf w) := by
  have h1 : Str.ofString "RET" = S [82, 69, 84] := by decide +kernel
  have h2 : Str.ofString "TAB" = S [84, 65, 66] := by decide +kernel
  have h3 : Str.ofString "ESC" = S [69, 83, 67] := by decide +kernel
  have h4 : Str.ofString "SPC" = S [83, 80, 67] := by decide +kernel
  have h5 : Str.ofString "DEL" = S [68, 69, 76] := by decide +kernel
  have e : ∀ (a : List Nat) (d : PyData) (r : List (PyData × PyData)), PySem.Spec.lookup (.str (S w)) ((.str (S a), d) :: r) = if a = w then some d else PySem.Spec.lookup (.str (S w)) r := by
    intro a d r
    show (if PySem.Spec.same (.str (S a)) (.str (S w)) then some d else PySem.Spec.lookup (.str (S w)) r) = _
    rw [PyProof.V.same_str]
    have hi : S a = S w ↔ a = w := ⟨fun h => congrArg (fun s => s.cps.toList) h, congrArg S⟩
    simp only [decide_eq_true_eq, hi]
  unfold dictD codeOf
  rw [h1, h2, h3, h4, h5, e, e, e, e, e]
  by_cases c1 : [82, 69, 84] = w
  · rw [if_pos c1, if_pos c1]; rfl
  rw [if_neg c1, if_neg c1]
  by_cases c2 : [84, 65, 66] = w
  · rw [if_pos c2, if_pos c2]; rfl
  rw [if_neg c2, if_neg c2]
  by_cases c3 : [69, 83, 67] = w
  · rw [if_pos c3, if_pos c3]; rfl
  rw [if_neg c3, if_neg c3]
  by_cases c4 : [83, 80, 67] = w
  · rw [if_pos c4, if_pos c4]; rfl
  rw [if_neg c4, if_neg c4]
  by_cases c5 : [68, 69, 76] = w
  · rw [if_pos c5, if_pos c5]; rfl
  rw [if_neg c5, if_neg c5]
  rfl
end Mine
namespace Mine
set_option maxRecDepth 100000
set_option maxHeartbeats 20000000
open LCg LCt
theorem fillK14 : (fun (_ : OpenLaw) (_ : Params → Frag) => True) PySem.Challenge.rw_oj0022_01 Mine.KF := by
  k_fill
  trivial
/-- the ends of a key's text -/
inductive Kd
  | name (nm : List Nat)
  | word (w : List Nat) (code : Nat)
  | sign (c : Nat)
noncomputable def Kd.tl : Kd → List Nat
  | .name nm => 60 :: (nm ++ [62])
  | .word w _ => w
  | .sign c => [c]
noncomputable def Kd.ok : Kd → Prop
  | .name nm => 1 ≤ nm.length ∧ nm.length ≤ 6 ∧ nm.head? ≠ some 45
  | .word w code => (w, code) ∈ [([82, 69, 84], 13), ([84, 65, 66], 9), ([69, 83, 67], 27), ([83, 80, 67], 32), ([68, 69, 76], 127)]
  | .sign c => c < 1114112
noncomputable def ctlI (X : List Nat) : Int := if (ordL X).contains 67 then 67108864 else 0
noncomputable def Kd.res (X : List Nat) : Kd → Value → List (Addr × Obj) → Prop
  | .name nm => RStr (S (ltx (ordL X) ++ nm))
  | .word _ code => RInt ((code : Int) + bsum (ordL X) + ctlI X)
  | .sign c => RInt (if (ordL X).contains 67 = true ∧ 64 ≤ c ∧ c < 123 ∧ c ≠ 96 then ((c % 32 : Nat) : Int) + bsum (ordL X) else (c : Int) + bsum (ordL X) + ctlI X)
theorem resName {X nm : List Nat} {t : Tok} {own : List (Addr × Obj)} : Kd.res X (.name nm) (.str (S (ltx (ordL X) ++ nm)) t) own := ⟨t, rfl⟩
theorem resWord {X w : List Nat} {code : Nat} {y : Int} {t : Tok} {own : List (Addr × Obj)} (h : y = (code : Int) + bsum (ordL X) + ctlI X) : Kd.res X (.word w code) (.int y t) own := ⟨t, by rw [h]⟩
theorem resSign {X : List Nat} {c : Nat} {y : Int} {t : Tok} {own : List (Addr × Obj)} (h : y = if (ordL X).contains 67 = true ∧ 64 ≤ c ∧ c < 123 ∧ c ≠ 96 then ((c % 32 : Nat) : Int) + bsum (ordL X) else (c : Int) + bsum (ordL X) + ctlI X) : Kd.res X (.sign c) (.int y t) own := ⟨t, by rw [h]⟩
theorem Kd.ok.len {k : Kd} (h : k.ok) : 1 ≤ k.tl.length ∧ k.tl.length ≤ 8 ∧ Stop k.tl := by
  cases k with
  | name nm =>
    obtain ⟨h1, h2, h3⟩ := h
    refine ⟨by show 1 ≤ (60 :: (nm ++ [62])).length; simp, by show (60 :: (nm ++ [62])).length ≤ 8; simp; omega, ?_⟩
    cases nm with
    | nil => cases h1
    | cons a r => exact .inr ⟨60, a, r ++ [62], rfl, fun e => h3 (by rw [e]; rfl)⟩
  | word w code =>
    simp only [Kd.ok, List.mem_cons, Prod.mk.injEq, List.not_mem_nil, or_false] at h
    rcases h with ⟨rfl, rfl⟩ | ⟨rfl, rfl⟩ | ⟨rfl, rfl⟩ | ⟨rfl, rfl⟩ | ⟨rfl, rfl⟩ <;> exact ⟨by decide, by decide, .inr ⟨_, _, _, rfl, by decide⟩⟩
  | sign c => exact ⟨Nat.le_refl 1, by show 1 ≤ 8; decide, .inl (by show 1 ≤ 2; decide)⟩
theorem Kd.ok.ne2 {k : Kd} (h : k.ok) : k.tl.length ≠ 2 := by
  cases k with
  | name nm => show (60 :: (nm ++ [62])).length ≠ 2; have := h.1; rw [List.length_cons, List.length_append, List.length_singleton]; omega
  | word w code =>
    simp only [Kd.ok, List.mem_cons, Prod.mk.injEq, List.not_mem_nil, or_false] at h
    rcases h with ⟨rfl, rfl⟩ | ⟨rfl, rfl⟩ | ⟨rfl, rfl⟩ | ⟨rfl, rfl⟩ | ⟨rfl, rfl⟩ <;> decide
  | sign c => show 1 ≠ 2; decide
theorem read_no' {X tl : List Nat} {i c : Nat} (h : LET[i]? = some c) (hc : X.contains c = false) (hs : Stop tl) (h2 : tl.length ≠ 2) : ((ltx (ordL X) ++ tl).drop (2 * (Qs X i).length)).take 2 ≠ [c, 45] := by
  rw [words_drop, Rs_no h hc]
  cases hR : Rs X (i + 1) with
  | cons d r =>
    refine fun e => Rs_ne h (d := d) (by rw [hR]; exact List.mem_cons_self) ?_
    have e' : [d, 45] = [c, 45] := e
    injection e'
  | nil =>
    show tl.take 2 ≠ [c, 45]
    rcases hs with hs | ⟨a, b, r, rfl, hb⟩
    · intro e
      have := congrArg List.length e
      rw [List.length_take] at this
      exact h2 (by simp at this; omega)
    · refine fun e => hb ?_
      have e' : [a, b] = [c, 45] := e
      injection e' with _ e'
      injection e'
theorem Kd.ok.is {k : Kd} (h : k.ok) : (∃ nm, k = .name nm ∧ 1 ≤ nm.length ∧ nm.length ≤ 6) ∨ (∃ a b d code, k = .word [a, b, d] code ∧ a ≠ 60 ∧ codeOf [a, b, d] = (code : Int) ∧ 0 ≤ (code : Int)) ∨ ∃ c, k = .sign c ∧ codeOf [c] = -1 := by
  cases k with
  | name nm => exact .inl ⟨nm, rfl, h.1, h.2.1⟩
  | word w code =>
    simp only [Kd.ok, List.mem_cons, Prod.mk.injEq, List.not_mem_nil, or_false] at h
    rcases h with ⟨rfl, rfl⟩ | ⟨rfl, rfl⟩ | ⟨rfl, rfl⟩ | ⟨rfl, rfl⟩ | ⟨rfl, rfl⟩ <;> exact .inr (.inl ⟨_, _, _, _, rfl, by decide, by decide, by decide⟩)
  | sign c => exact .inr (.inr ⟨c, rfl, by unfold codeOf; simp⟩)
noncomputable def JR (X tl : List Nat) (t : Tok) (i : Nat) (m : Str → Option Value) : Prop := ∃ u1 u2 u3, m (Str.ofString "words") = some (.str (S (ltx (ordL X) ++ tl)) t) ∧ m (Str.ofString "at") = some (.int ((2 * (Qs X i).length : Nat) : Int) u1) ∧
  m (Str.ofString "some_letters") = some (.str (S (ltx (Qs X i))) u2) ∧ m (Str.ofString "bits") = some (.int (bsum (Qs X i)) u3) ∧ m (Str.ofString "is_controlling") = some (.bool ((Qs X i).contains 67))
theorem JR.yes {X tl : List Nat} {t : Tok} {i c : Nat} {m : Str → Option Value} {u1 u2 u3 : Tok} {a b : Int} {bb : Bool} {st : List Nat} (hc : LET[i]? = some c) (hX : X.contains c = true) (e1 : m (Str.ofString "words") = some (.str (S (ltx (ordL X) ++ tl)) t))
    (e2 : m (Str.ofString "at") = some (.int a u1)) (e3 : m (Str.ofString "some_letters") = some (.str (S st) u2)) (e4 : m (Str.ofString "bits") = some (.int b u3)) (e5 : m (Str.ofString "is_controlling") = some (.bool bb))
    (ha : a = ((2 * (Qs X i).length : Nat) : Int) + 2) (hst : st = (ltx (Qs X i) ++ [c]) ++ [45]) (hb : b = bsum (Qs X i) + (if c = 67 then 0 else Bof c)) (hbb : bb = ((Qs X i).contains 67 || decide (c = 67))) : JR X tl t (i + 1) m := by
  refine ⟨u1, u2, u3, e1, ?_, ?_, ?_, ?_⟩
  · rw [Qs_yes hc hX, e2, ha, List.length_append, List.length_singleton]
    have : ((2 * (Qs X i).length : Nat) : Int) + 2 = ((2 * ((Qs X i).length + 1) : Nat) : Int) := by omega
    rw [this]
  · rw [Qs_yes hc hX, e3, hst, ltx_snoc]
  · rw [Qs_yes hc hX, e4, hb, bsum_snoc]
  · rw [Qs_yes hc hX, e5, hbb, contains_snoc]
theorem JR.no {X tl : List Nat} {t : Tok} {i c : Nat} {m : Str → Option Value} {u1 u2 u3 : Tok} (hc : LET[i]? = some c) (hX : X.contains c = false) (e1 : m (Str.ofString "words") = some (.str (S (ltx (ordL X) ++ tl)) t))
    (e2 : m (Str.ofString "at") = some (.int ((2 * (Qs X i).length : Nat) : Int) u1)) (e3 : m (Str.ofString "some_letters") = some (.str (S (ltx (Qs X i))) u2)) (e4 : m (Str.ofString "bits") = some (.int (bsum (Qs X i)) u3)) (e5 : m (Str.ofString "is_controlling") = some (.bool ((Qs X i).contains 67))) : JR X tl t (i + 1) m := by
  unfold JR
  rw [Qs_no hc hX]
  exact ⟨u1, u2, u3, e1, e2, e3, e4, e5⟩
theorem eqC (c : Nat) : (({ cps := #[c] } : Str) == Str.ofString "C") = decide (c = 67) := by
  rw [show Str.ofString "C" = ⟨#[67]⟩ from by decide +kernel]; exact mk_one_beq _ _
theorem eqHy (l : List Nat) (c : Nat) : (S l == ({ cps := #[c] } : Str) ++ Str.ofString "-") = decide (l = [c, 45]) := by
  rw [hyphen_is]; exact eq_S (b := [c, 45])
local macro_rules | `(tactic| walk_at "subscriptTail") => `(tactic| (k_here; (refine' sliceTwo ?F ?N ?n ?sz ?_; (case F => k_asm); (case N => k_asm); (case n => omega); (case sz => omega); k_whole; intro _ _ _ F' N'; (try k_sweep))))
local macro_rules | `(tactic| walk_at "binaryOp Add") => `(tactic| (k_here; first
  | ((with_reducible refine add_S ?_ ?_); (rotate_left; intro _ _; rotate_right); (focus (first | omega | (rw [ltx_length]; omega))))
  | (rw [hyphen_is]; refine addT (by simp only [List.length_append, List.length_singleton]; omega) ?_; intro _ _)
  | (refine addT (by omega) ?_; intro _ _)
  | (rw [hyphen_is]; refine add_S (l := [_]) (l' := [45]) (by show 1 + 1 ≤ _; decide) ?_; intro _ _)))
local macro_rules | `(tactic| walk_at "ite") => `(tactic| first | with_reducible refine ite_ff ?_ | with_reducible refine ite_tt ?_)
local macro_rules | `(tactic| walk_at "subscriptTail") => `(tactic| (k_here; first
  | (refine' sliceRest ?F ?N ?x ?n ?sz ?_; (case F => k_asm); (case N => k_asm); (case x => assumption); (case n => omega); (case sz => omega); k_whole; intro _ _ _ F' N'; (try k_sweep))
  | (refine' sliceMid ?F ?N ?sz ?_; (case F => k_asm); (case N => k_asm); (case sz => omega); k_whole; intro _ _ _ F' N'; (try k_sweep))
  | (refine itemT0 ?_; intro _ _)
  | (refine itemEnd (by omega) ?_; intro _ _)))
theorem flatTrans {v : Value} {d e : PyData} (h : PyProof.V.Flat v d) (q : d = e) : PyProof.V.Flat v e := q ▸ h
theorem c_read (X : List Nat) (k : Kd) (t : Tok) (hk : k.ok) : Calls 216 2 16 [.str (S (ltx (ordL X) ++ k.tl)) t] [] (k.res X) := by
  have hlen := hk.len
  have hk2 := hk.ne2
  have hkis := hk.is
  (w_top off; intro w mean mg mb dp un gd cn cs a ccd cl outer A₀ base h₀ L m s Q E B F X N T hk hdp hun hret; refine wpAny_call ?_; k_dflt first | (refine' code_own ?k1 ?k2 ?k3 ?k4 ?k5 ?kA ?kF ?kK ?k6 ?k7 ?k8 ?k9 ?kB hret ?_ ?c2 ?c3 ?c4 ?c5; ((case kA | kF => exact rfl); (case kK => assumption); (case k1 | k2 | k3 | k4 | k5 => k_asm); (case k6 | k7 => k_is); (case k8 => exact room0 hdp)); (case k9 => first | exact BindsTo.of_eq rfl | exact binds_K (by k_in) rfl (by k_is) rfl rfl rfl); (case c5 => decide); (case kB => exact locs rfl); ((case c2 | c3 | c4 => exact rfl); k_whole; clear hret B F X N T); intro g' L' h' F' N' B' X' T'; (try dsimp only); (try k_lift B'); (try k_fold)) | (refine' code_ownC ?k1 ?k2 ?k3 ?k4 ?k5 ?kA ?kF ?kK ?k6 ?k7 ?k8 ?k9 ?kB ?kD hret ?_ ?c2 ?c3 ?c4; ((case kA | kF => exact rfl); (case kK => assumption); (case k1 | k2 | k3 | k4 | k5 => k_asm); (case k6 | k7 => k_is); (case k8 => exact room0 hdp)); (case k9 => exact BindsTo.of_eq rfl); (case kB => exact rfl); (case kD => decide +kernel); ((case c2 | c3 | c4 => exact rfl); k_whole; clear hret B F X N T); intro g' L' h' tk' cells' F' N' Y' B' X' T' l1; (try k_lt l1); k_cells Y'; (try simp only [List.cons_append, List.nil_append] at N'); (try dsimp only); (try k_lift B'); (try k_fold)))
  (repeat' (first | (k_unfold; (try dsimp only)) | (k_end; wrow_close) | ((with_reducible show wpAny _ _ (call (.builtin "len") _) _ _ _); with_reducible ((k_here; (with_reducible show wpAny _ _ (call (Value.builtin "len") [Value.str (S _) _]) _ _ _); (refine lenT (by omega) ?_); intro _ _))) | ((with_reducible show Mid ..); with_reducible ((k_here; exact Mid.intro (by k_asm) (by k_asm)))) | ((with_reducible show wpAny _ _ (call (.ref _) _) _ _ _); with_reducible ((o_head (RBits.use c_bits); intros))) | ((with_reducible show wpAny _ _ (exec (.For (.Tuple ..) (.Call ..) ..) _) _ _ _); with_reducible ((k_here; (rename Fr _ _ _ _ => lF'); (with_unfolding_all refine' For_turns lF' ?_; k_whole)))) | ((with_reducible show wpAny _ _ (exec (.For (.Tuple ..) (.Call ..) ..) _) _ _ _); with_reducible ((k_here; (rename Fr _ _ _ _ => lF'); (with_unfolding_all refine' For_turns lF' ?_; k_whole)))) | ((with_reducible show LeaveO ..); with_reducible ((k_dflt (refine' LeaveO.intro ?k1 ?k2 ?_; (case k1 => k_asm); (case k2 => k_asm); k_whole; (try dsimp only))))) | walk1 | (dsimp only; walk1) | (leave1; walk_say "STEP leave1"; try dsimp only) | fail "no step"); (all_goals (try k_data)))
  rename BitTups _ => hB
  rename Fr _ _ _ _ => F9
  rename News _ _ _ _ => N9
  refine iter_pairs (JR X k.tl t) rfl F9 N9 rfl ⟨_, _, _, by with_unfolding_all rfl, by with_unfolding_all rfl, by with_unfolding_all rfl, by with_unfolding_all rfl, by with_unfolding_all rfl⟩ ?turn ?done
  case turn =>
    clear F9 N9 hkis
    rintro i T T' vals m₁ h tk own hT ⟨v1, v2, v3, e1, e2, e3, e4, e5⟩ F N hTup
    obtain ⟨c, x1, x2, rfl, hc⟩ := hB.get _ _ _ hT
    rw [setSelf e1, setSelf e2, setSelf e3, setSelf e4, setSelf e5] at F
    clear e1 e2 e3 e4 e5
    have hyes := fun h => read_yes (X := X) (tl := k.tl) hc h hlen.1
    have hno := fun h => read_no' (X := X) (tl := k.tl) hc h hlen.2.2 hk2
    have hWl := words_len X k.tl i
    have hQ6 : (Qs X i).length ≤ 6 := Nat.le_trans (List.length_filter_le _ _) (Nat.le_trans (List.length_take_le' _ _) (Nat.le_refl _))
    have hR6 : (Rs X i).length ≤ 6 := Nat.le_trans (List.length_filter_le _ _) (by rw [List.length_drop]; exact Nat.sub_le _ _)
    have hlQ := ltx_length (Qs X i)
    generalize hW : ltx (ordL X) ++ k.tl = W at *
    generalize hn : 2 * (Qs X i).length = n at *
    clear hT hB
    have he : ∀ b, decide ((W.drop n).take 2 = [c, 45]) = b → (S ((W.drop n).take 2) == (⟨#[c]⟩ : Str) ++ Str.ofString "-") = b := fun b h => (eqHy _ _).trans h
    cases hX : X.contains c with
    | true =>
      obtain ⟨hT, hL⟩ := hyes hX
      replace he := he _ (decide_eq_true hT)
      clear hyes hno hT
      (repeat' (first | (k_unfold; (try dsimp only)) | (k_end; wrow_close) | ((with_reducible show wpAny _ _ (call (.builtin "len") _) _ _ _); with_reducible ((k_here; (with_reducible show wpAny _ _ (call (Value.builtin "len") [Value.str (S _) _]) _ _ _); (refine lenT (by omega) ?_); intro _ _))) | ((with_reducible show Mid ..); with_reducible ((k_here; exact Mid.intro (by k_asm) (by k_asm)))) | ((with_reducible show wpAny _ _ (call (.ref _) _) _ _ _); with_reducible ((o_head (RBits.use c_bits); intros))) | ((with_reducible show wpAny _ _ (exec (.For (.Tuple ..) (.Call ..) ..) _) _ _ _); with_reducible ((k_here; (rename Fr _ _ _ _ => lF'); (with_unfolding_all refine' For_turns lF' ?_; k_whole)))) | ((with_reducible show wpAny _ _ (exec (.For (.Tuple ..) (.Call ..) ..) _) _ _ _); with_reducible ((k_here; (rename Fr _ _ _ _ => lF'); (with_unfolding_all refine' For_turns lF' ?_; k_whole)))) | ((with_reducible show LeaveO ..); with_reducible ((k_dflt (refine' LeaveO.intro ?k1 ?k2 ?_; (case k1 => k_asm); (case k2 => k_asm); k_whole; (try dsimp only))))) | walk1 | (dsimp only; walk1) | (leave1; walk_say "STEP leave1"; try dsimp only) | fail "no step"); (all_goals (try k_data)))
      all_goals (
        subst hW hn
        first
        | (have h67 := of_decide_eq_true ((eqC c).symm.trans (by assumption))
           exact InvEnd.intro (by k_asm) (by k_asm) (fun p h => h) (JR.yes hc hX (by with_unfolding_all rfl) (by with_unfolding_all rfl) (by with_unfolding_all rfl) (by with_unfolding_all rfl) (by with_unfolding_all rfl) rfl rfl (by rw [if_pos h67, Int.add_zero]) (by rw [decide_eq_true h67, Bool.or_true]; assumption)))
        | (have h67 := of_decide_eq_false ((eqC c).symm.trans (by assumption))
           exact InvEnd.intro (by k_asm) (by k_asm) (fun p h => h) (JR.yes hc hX (by with_unfolding_all rfl) (by with_unfolding_all rfl) (by with_unfolding_all rfl) (by with_unfolding_all rfl) (by with_unfolding_all rfl) rfl rfl (by rw [if_neg h67]) (by first
            | (rw [decide_eq_false h67, Bool.or_false]; done)
            | (rw [decide_eq_false h67, Bool.or_false, (by assumption : (Qs X i).contains 67 = false)]; assumption)))))
    | false =>
      replace he := he _ (decide_eq_false (hno hX))
      clear hyes hno
      (repeat' (first | (k_unfold; (try dsimp only)) | (k_end; wrow_close) | ((with_reducible show wpAny _ _ (call (.builtin "len") _) _ _ _); with_reducible ((k_here; (with_reducible show wpAny _ _ (call (Value.builtin "len") [Value.str (S _) _]) _ _ _); (refine lenT (by omega) ?_); intro _ _))) | ((with_reducible show Mid ..); with_reducible ((k_here; exact Mid.intro (by k_asm) (by k_asm)))) | ((with_reducible show wpAny _ _ (call (.ref _) _) _ _ _); with_reducible ((o_head (RBits.use c_bits); intros))) | ((with_reducible show wpAny _ _ (exec (.For (.Tuple ..) (.Call ..) ..) _) _ _ _); with_reducible ((k_here; (rename Fr _ _ _ _ => lF'); (with_unfolding_all refine' For_turns lF' ?_; k_whole)))) | ((with_reducible show wpAny _ _ (exec (.For (.Tuple ..) (.Call ..) ..) _) _ _ _); with_reducible ((k_here; (rename Fr _ _ _ _ => lF'); (with_unfolding_all refine' For_turns lF' ?_; k_whole)))) | ((with_reducible show LeaveO ..); with_reducible ((k_dflt (refine' LeaveO.intro ?k1 ?k2 ?_; (case k1 => k_asm); (case k2 => k_asm); k_whole; (try dsimp only))))) | walk1 | (dsimp only; walk1) | (leave1; walk_say "STEP leave1"; try dsimp only) | fail "no step"); (all_goals (try k_data)))
      subst hW hn
      exact InvEnd.intro (by k_asm) (by k_asm) (fun p h => h) (JR.no hc hX (by with_unfolding_all rfl) (by with_unfolding_all rfl) (by with_unfolding_all rfl) (by with_unfolding_all rfl) (by with_unfolding_all rfl))
  case done =>
    clear F9 N9
    rw [hB.len]
    clear hB
    rintro m₁ h tk ⟨v1, v2, v3, e1, e2, e3, e4, e5⟩ F N
    replace e2 : m₁ (Str.ofString "at") = some (.int ((2 * (ordL X).length : Nat) : Int) v1) := e2
    replace e3 : m₁ (Str.ofString "some_letters") = some (.str (S (ltx (ordL X))) v2) := e3
    replace e4 : m₁ (Str.ofString "bits") = some (.int (bsum (ordL X)) v3) := e4
    replace e5 : m₁ (Str.ofString "is_controlling") = some (.bool ((ordL X).contains 67)) := e5
    rw [setSelf e1, setSelf e2, setSelf e3, setSelf e4, setSelf e5] at F
    have hWl : (ltx (ordL X) ++ k.tl).length = 2 * (ordL X).length + k.tl.length := by rw [List.length_append, ltx_length]
    have hlo := ordL_length X
    have hdrop : (ltx (ordL X) ++ k.tl).drop (2 * (ordL X).length) = k.tl := words_drop X k.tl 6
    clear e1 e2 e3 e4 e5
    generalize hW : ltx (ordL X) ++ k.tl = W at *
    generalize hn : 2 * (ordL X).length = n at *
    have hnW : n ≤ W.length := by omega
    have hW24 : W.length ≤ 24 := by omega
    have hrest : S (W.drop n) = S k.tl := congrArg S hdrop
    clear hWl hW hlen hk2 hdrop
    repeat' (
      fail_if_success (with_reducible show wpAny _ _ (exec (.If _ _ _ _) _) _ _ _)
      first | (k_unfold; (try dsimp only)) | ((with_reducible show wpAny _ _ (call (.builtin "len") _) _ _ _); with_reducible ((k_here; (with_reducible show wpAny _ _ (call (Value.builtin "len") [Value.str (S _) _]) _ _ _); (refine lenT (by omega) ?_); intro _ _))) | ((with_reducible show Mid ..); with_reducible ((k_here; exact Mid.intro (by k_asm) (by k_asm)))) | ((with_reducible show wpAny _ _ (call (.ref _) _) _ _ _); with_reducible ((o_head (RBits.use c_bits); intros))) | ((with_reducible show wpAny _ _ (exec (.For (.Tuple ..) (.Call ..) ..) _) _ _ _); with_reducible ((k_here; (rename Fr _ _ _ _ => lF'); (with_unfolding_all refine' For_turns lF' ?_; k_whole)))) | ((with_reducible show wpAny _ _ (exec (.For (.Tuple ..) (.Call ..) ..) _) _ _ _); with_reducible ((k_here; (rename Fr _ _ _ _ => lF'); (with_unfolding_all refine' For_turns lF' ?_; k_whole)))) | ((with_reducible show LeaveO ..); with_reducible ((k_dflt (refine' LeaveO.intro ?k1 ?k2 ?_; (case k1 => k_asm); (case k2 => k_asm); k_whole; (try dsimp only))))) | walk1 | (dsimp only; walk1))
    clear hrest hnW hW24
    rcases hkis with ⟨nm, rfl, k1, k2⟩ | hws
    · have hl2 : (60 :: (nm ++ [62])).length = nm.length + 2 := by simp
      have hlt : ((⟨#[60]⟩ : Str) == Str.ofString "<") = true := by decide +kernel
      have hgt : ((⟨#[62]⟩ : Str) == Str.ofString ">") = true := by decide +kernel
      rename Fr _ _ _ _ => F
      dsimp only [Kd.tl] at F
      (repeat' (first | (k_unfold; (try dsimp only)) | (k_end; wrow_close) | ((with_reducible show wpAny _ _ (call (.builtin "len") _) _ _ _); with_reducible ((k_here; (with_reducible show wpAny _ _ (call (Value.builtin "len") [Value.str (S _) _]) _ _ _); (refine lenT (by omega) ?_); intro _ _))) | ((with_reducible show Mid ..); with_reducible ((k_here; exact Mid.intro (by k_asm) (by k_asm)))) | ((with_reducible show wpAny _ _ (call (.ref _) _) _ _ _); with_reducible ((o_head (RBits.use c_bits); intros))) | ((with_reducible show wpAny _ _ (exec (.For (.Tuple ..) (.Call ..) ..) _) _ _ _); with_reducible ((k_here; (rename Fr _ _ _ _ => lF'); (with_unfolding_all refine' For_turns lF' ?_; k_whole)))) | ((with_reducible show wpAny _ _ (exec (.For (.Tuple ..) (.Call ..) ..) _) _ _ _); with_reducible ((k_here; (rename Fr _ _ _ _ => lF'); (with_unfolding_all refine' For_turns lF' ?_; k_whole)))) | ((with_reducible show LeaveO ..); with_reducible ((k_dflt (refine' LeaveO.intro ?k1 ?k2 ?_; (case k1 => k_asm); (case k2 => k_asm); k_whole; (try dsimp only))))) | walk1 | (dsimp only; walk1) | (leave1; walk_say "STEP leave1"; try dsimp only) | fail "no step"); (all_goals (try k_data)))
      exact resName
    · refine cutMid (by k_asm) (by k_asm) ?g1 ?g2
      case g1 =>
        rename Fr _ _ _ _ => F
        rcases hws with ⟨wa, wb, wd, code, rfl, hwa, _⟩ | ⟨c, rfl, _⟩
        · dsimp only [Kd.tl] at F ⊢
          have hl3 : [wa, wb, wd].length = 3 := rfl
          have hne : ((⟨#[wa]⟩ : Str) == Str.ofString "<") = false := by rw [lt_is]; exact (mk_one_beq _ 60).trans (decide_eq_false hwa)
          (repeat' (first | (k_unfold; (try dsimp only)) | (k_end; wrow_close) | ((with_reducible show wpAny _ _ (call (.builtin "len") _) _ _ _); with_reducible ((k_here; (with_reducible show wpAny _ _ (call (Value.builtin "len") [Value.str (S _) _]) _ _ _); (refine lenT (by omega) ?_); intro _ _))) | ((with_reducible show Mid ..); with_reducible ((k_here; exact Mid.intro (by k_asm) (by k_asm)))) | ((with_reducible show wpAny _ _ (call (.ref _) _) _ _ _); with_reducible ((o_head (RBits.use c_bits); intros))) | ((with_reducible show wpAny _ _ (exec (.For (.Tuple ..) (.Call ..) ..) _) _ _ _); with_reducible ((k_here; (rename Fr _ _ _ _ => lF'); (with_unfolding_all refine' For_turns lF' ?_; k_whole)))) | ((with_reducible show wpAny _ _ (exec (.For (.Tuple ..) (.Call ..) ..) _) _ _ _); with_reducible ((k_here; (rename Fr _ _ _ _ => lF'); (with_unfolding_all refine' For_turns lF' ?_; k_whole)))) | ((with_reducible show LeaveO ..); with_reducible ((k_dflt (refine' LeaveO.intro ?k1 ?k2 ?_; (case k1 => k_asm); (case k2 => k_asm); k_whole; (try dsimp only))))) | walk1 | (dsimp only; walk1) | (leave1; walk_say "STEP leave1"; try dsimp only) | fail "no step"); (all_goals (try k_data)))
        · dsimp only [Kd.tl] at F ⊢
          have hl1 : [c].length = 1 := rfl
          (repeat' (first | (k_unfold; (try dsimp only)) | (k_end; wrow_close) | ((with_reducible show wpAny _ _ (call (.builtin "len") _) _ _ _); with_reducible ((k_here; (with_reducible show wpAny _ _ (call (Value.builtin "len") [Value.str (S _) _]) _ _ _); (refine lenT (by omega) ?_); intro _ _))) | ((with_reducible show Mid ..); with_reducible ((k_here; exact Mid.intro (by k_asm) (by k_asm)))) | ((with_reducible show wpAny _ _ (call (.ref _) _) _ _ _); with_reducible ((o_head (RBits.use c_bits); intros))) | ((with_reducible show wpAny _ _ (exec (.For (.Tuple ..) (.Call ..) ..) _) _ _ _); with_reducible ((k_here; (rename Fr _ _ _ _ => lF'); (with_unfolding_all refine' For_turns lF' ?_; k_whole)))) | ((with_reducible show wpAny _ _ (exec (.For (.Tuple ..) (.Call ..) ..) _) _ _ _); with_reducible ((k_here; (rename Fr _ _ _ _ => lF'); (with_unfolding_all refine' For_turns lF' ?_; k_whole)))) | ((with_reducible show LeaveO ..); with_reducible ((k_dflt (refine' LeaveO.intro ?k1 ?k2 ?_; (case k1 => k_asm); (case k2 => k_asm); k_whole; (try dsimp only))))) | walk1 | (dsimp only; walk1) | (leave1; walk_say "STEP leave1"; try dsimp only) | fail "no step"); (all_goals (try k_data)))
      case g2 =>
        rename Fr _ _ _ _ => F
        rename News _ _ _ _ => N
        clear F N
        intro h tk F N
        (repeat' (first | (k_unfold; (try dsimp only)) | (k_end; wrow_close) | ((with_reducible show wpAny _ _ (call (.builtin "len") _) _ _ _); with_reducible ((k_here; (with_reducible show wpAny _ _ (call (Value.builtin "len") [Value.str (S _) _]) _ _ _); (refine lenT (by omega) ?_); intro _ _))) | ((with_reducible show Mid ..); with_reducible ((k_here; exact Mid.intro (by k_asm) (by k_asm)))) | ((with_reducible show wpAny _ _ (call (.ref _) _) _ _ _); with_reducible ((o_head (RBits.use c_bits); intros))) | ((with_reducible show wpAny _ _ (exec (.For (.Tuple ..) (.Call ..) ..) _) _ _ _); with_reducible ((k_here; (rename Fr _ _ _ _ => lF'); (with_unfolding_all refine' For_turns lF' ?_; k_whole)))) | ((with_reducible show wpAny _ _ (exec (.For (.Tuple ..) (.Call ..) ..) _) _ _ _); with_reducible ((k_here; (rename Fr _ _ _ _ => lF'); (with_unfolding_all refine' For_turns lF' ?_; k_whole)))) | ((with_reducible show LeaveO ..); with_reducible ((k_dflt (refine' LeaveO.intro ?k1 ?k2 ?_; (case k1 => k_asm); (case k2 => k_asm); k_whole; (try dsimp only))))) | walk1 | (dsimp only; walk1) | (leave1; walk_say "STEP leave1"; try dsimp only) | fail "no step"); (all_goals (try k_data)))
        rename PyProof.V.Flat _ _ => hv9
        obtain ⟨t9, rfl⟩ := PyProof.V.Flat.int_inv (flatTrans hv9 (look_S _))
        clear hv9
        rcases hws with ⟨wa, wb, wd, code, rfl, _, hcode, hc0⟩ | ⟨c, rfl, hcode⟩
        · rename Fr _ _ _ _ => F
          dsimp only [Kd.tl] at F ⊢
          (repeat' (first | (k_unfold; (try dsimp only)) | (k_end; wrow_close) | ((with_reducible show wpAny _ _ (call (.builtin "len") _) _ _ _); with_reducible ((k_here; (with_reducible show wpAny _ _ (call (Value.builtin "len") [Value.str (S _) _]) _ _ _); (refine lenT (by omega) ?_); intro _ _))) | ((with_reducible show Mid ..); with_reducible ((k_here; exact Mid.intro (by k_asm) (by k_asm)))) | ((with_reducible show wpAny _ _ (call (.ref _) _) _ _ _); with_reducible ((o_head (RBits.use c_bits); intros))) | ((with_reducible show wpAny _ _ (exec (.For (.Tuple ..) (.Call ..) ..) _) _ _ _); with_reducible ((k_here; (rename Fr _ _ _ _ => lF'); (with_unfolding_all refine' For_turns lF' ?_; k_whole)))) | ((with_reducible show wpAny _ _ (exec (.For (.Tuple ..) (.Call ..) ..) _) _ _ _); with_reducible ((k_here; (rename Fr _ _ _ _ => lF'); (with_unfolding_all refine' For_turns lF' ?_; k_whole)))) | ((with_reducible show LeaveO ..); with_reducible ((k_dflt (refine' LeaveO.intro ?k1 ?k2 ?_; (case k1 => k_asm); (case k2 => k_asm); k_whole; (try dsimp only))))) | walk1 | (dsimp only; walk1) | (leave1; walk_say "STEP leave1"; try dsimp only) | fail "no step"); (all_goals (try k_data)))
          · exact resWord (by rw [hcode, ctlI, if_pos (by assumption)])
          · exact resWord (by rw [hcode, ctlI, if_neg (by rw [Bool.not_eq_true]; assumption)])
        · rename Fr _ _ _ _ => F
          dsimp only [Kd.tl] at F ⊢
          have hc0 : 0 ≤ (c : Int) := Int.natCast_nonneg _
          (repeat' (first | (k_unfold; (try dsimp only)) | (k_end; wrow_close) | ((with_reducible show wpAny _ _ (call (.builtin "len") _) _ _ _); with_reducible ((k_here; (with_reducible show wpAny _ _ (call (Value.builtin "len") [Value.str (S _) _]) _ _ _); (refine lenT (by omega) ?_); intro _ _))) | ((with_reducible show Mid ..); with_reducible ((k_here; exact Mid.intro (by k_asm) (by k_asm)))) | ((with_reducible show wpAny _ _ (call (.ref _) _) _ _ _); with_reducible ((o_head (RBits.use c_bits); intros))) | ((with_reducible show wpAny _ _ (exec (.For (.Tuple ..) (.Call ..) ..) _) _ _ _); with_reducible ((k_here; (rename Fr _ _ _ _ => lF'); (with_unfolding_all refine' For_turns lF' ?_; k_whole)))) | ((with_reducible show wpAny _ _ (exec (.For (.Tuple ..) (.Call ..) ..) _) _ _ _); with_reducible ((k_here; (rename Fr _ _ _ _ => lF'); (with_unfolding_all refine' For_turns lF' ?_; k_whole)))) | ((with_reducible show LeaveO ..); with_reducible ((k_dflt (refine' LeaveO.intro ?k1 ?k2 ?_; (case k1 => k_asm); (case k2 => k_asm); k_whole; (try dsimp only))))) | walk1 | (dsimp only; walk1) | (leave1; walk_say "STEP leave1"; try dsimp only) | fail "no step"); (all_goals (try k_data)))
          all_goals (refine resSign ?_; first
            | (rw [if_pos ⟨by assumption, by omega, by omega, by omega⟩, Int.fmod_eq_emod_of_nonneg _ (by decide)]; rfl)
            | (rw [if_neg (fun h => by obtain ⟨h1, h2, h3, h4⟩ := h; omega), ctlI, if_pos (by assumption)])
            | (rw [if_neg (fun h => by obtain ⟨h1, h2, h3, h4⟩ := h; (have hF : (ordL X).contains 67 = false := by assumption); rw [hF] at h1; cases h1), ctlI, if_neg (by rw [Bool.not_eq_true]; assumption)]))
end Mine
namespace Mine
set_option maxRecDepth 100000
theorem ordL_idem (l : List Nat) : ordL (ordL l) = ordL l := by
  unfold ordL
  refine List.filter_congr fun c hc => ?_
  rw [Bool.eq_iff_iff, List.contains_iff_mem, List.mem_filter]
  exact ⟨fun h => h.2, fun h => ⟨hc, h⟩⟩
theorem ltx_inj : ∀ (A B t1 t2 : List Nat), Stop t1 → Stop t2 → 1 ≤ t1.length → 1 ≤ t2.length → ltx A ++ t1 = ltx B ++ t2 → A = B ∧ t1 = t2
  | [], [], _, _, _, _, _, _, e => ⟨rfl, e⟩
  | [], b :: B, t1, t2, s1, _, _, l2, e => by
    have e' : t1 = b :: 45 :: (ltx B ++ t2) := e
    subst e'
    exfalso
    rcases s1 with h | ⟨x, y, r, h, hy⟩
    · simp only [List.length_cons, List.length_append] at h; omega
    · injection h with _ h; injection h with h _; exact hy h.symm
  | a :: A, [], t1, t2, _, s2, l1, _, e => by
    have e' : a :: 45 :: (ltx A ++ t1) = t2 := e
    subst e'
    exfalso
    rcases s2 with h | ⟨x, y, r, h, hy⟩
    · simp only [List.length_cons, List.length_append] at h; omega
    · injection h with _ h; injection h with h _; exact hy h.symm
  | a :: A, b :: B, t1, t2, s1, s2, l1, l2, e => by
    have e' : a :: 45 :: (ltx A ++ t1) = b :: 45 :: (ltx B ++ t2) := e
    injection e' with h1 e'
    injection e' with _ e'
    obtain ⟨h2, h3⟩ := ltx_inj A B t1 t2 s1 s2 l1 l2 e'
    exact ⟨by rw [h1, h2], h3⟩
/-- what the reader makes of a text -/
noncomputable def Kd.out (X : List Nat) : Kd → Int ⊕ List Nat
  | .name nm => .inr (ltx (ordL X) ++ nm)
  | .word _ code => .inl ((code : Int) + bsum (ordL X) + ctlI X)
  | .sign c => .inl (if (ordL X).contains 67 = true ∧ 64 ≤ c ∧ c < 123 ∧ c ≠ 96 then ((c % 32 : Nat) : Int) + bsum (ordL X) else (c : Int) + bsum (ordL X) + ctlI X)
theorem out_word (X w : List Nat) (code : Nat) : (Kd.word w code).out X = .inl ((code : Int) + bsum (ordL X) + ctlI X) := rfl
theorem out_sign (X : List Nat) (c : Nat) : (Kd.sign c).out X = .inl (if (ordL X).contains 67 = true ∧ 64 ≤ c ∧ c < 123 ∧ c ≠ 96 then ((c % 32 : Nat) : Int) + bsum (ordL X) else (c : Int) + bsum (ordL X) + ctlI X) := rfl
theorem kd_inj {a b : Kd} (ha : a.ok) (hb : b.ok) (e : a.tl = b.tl) : ∀ X, a.out X = b.out X := by
  intro X
  have words : ∀ {w : List Nat} {code : Nat}, (Kd.word w code).ok → (∃ x y z, w = [x, y, z] ∧ x ≠ 60) ∧ codeOf w = (code : Int) := by
    intro w code h
    simp only [Kd.ok, List.mem_cons, Prod.mk.injEq, List.not_mem_nil, or_false] at h
    rcases h with ⟨rfl, rfl⟩ | ⟨rfl, rfl⟩ | ⟨rfl, rfl⟩ | ⟨rfl, rfl⟩ | ⟨rfl, rfl⟩ <;> exact ⟨⟨_, _, _, rfl, by decide⟩, by decide⟩
  cases a with
  | name nm =>
    cases b with
    | name nm' =>
      have e' : 60 :: (nm ++ [62]) = 60 :: (nm' ++ [62]) := e
      injection e' with _ e'
      have := List.append_cancel_right e'
      rw [this]
    | word w code =>
      obtain ⟨⟨x, y, z, rfl, hx⟩, _⟩ := words hb
      have e' : 60 :: (nm ++ [62]) = [x, y, z] := e
      injection e' with h _
      exact absurd h.symm hx
    | sign c =>
      have e' := congrArg List.length (show 60 :: (nm ++ [62]) = [c] from e)
      simp at e'
  | word w code =>
    obtain ⟨⟨x, y, z, rfl, hx⟩, hc⟩ := words ha
    cases b with
    | name nm' =>
      have e' : [x, y, z] = 60 :: (nm' ++ [62]) := e
      injection e' with h _
      exact absurd h hx
    | word w' code' =>
      obtain ⟨_, hc'⟩ := words hb
      have e' : [x, y, z] = w' := e
      subst e'
      have : (code : Int) = code' := hc.symm.trans hc'
      show (Sum.inl ((code : Int) + bsum (ordL X) + ctlI X) : Int ⊕ List Nat) = Sum.inl ((code' : Int) + bsum (ordL X) + ctlI X)
      rw [this]
    | sign c =>
      have e' := congrArg List.length (show [x, y, z] = [c] from e)
      simp at e'
  | sign c =>
    cases b with
    | name nm' =>
      have e' := congrArg List.length (show [c] = 60 :: (nm' ++ [62]) from e)
      simp at e'
    | word w code =>
      obtain ⟨⟨x, y, z, rfl, hx⟩, _⟩ := words hb
      have e' := congrArg List.length (show [c] = [x, y, z] from e)
      simp at e'
    | sign c' =>
      have e' : [c] = [c'] := e
      injection e' with h _
      rw [h]
/-- a text and what it is the text of -/
noncomputable def Tells (txt : List Nat) (o : Int ⊕ List Nat) : Prop := ∃ (X : List Nat) (kd : Kd), kd.ok ∧ txt = ltx (ordL X) ++ kd.tl ∧ kd.out X = o
theorem bsum_ord_congr {X Y : List Nat} (h : ordL X = ordL Y) (kd : Kd) : kd.out X = kd.out Y := by
  cases kd <;> simp only [Kd.out, ctlI, h]
theorem Tells.inj {t1 t2 : List Nat} {o1 o2 : Int ⊕ List Nat} (h1 : Tells t1 o1) (h2 : Tells t2 o2) (e : t1 = t2) : o1 = o2 := by
  obtain ⟨X, a, ha, rfl, rfl⟩ := h1
  obtain ⟨Y, b, hb, rfl, rfl⟩ := h2
  obtain ⟨e1, e2⟩ := ltx_inj _ _ _ _ ha.len.2.2 hb.len.2.2 ha.len.1 hb.len.1 e
  exact (bsum_ord_congr e1 a).trans (kd_inj ha hb e2 Y)
theorem f1 : ∀ k : Nat, k < 64 → bsum (ordL (klets k)) + ctlI (klets k) = 4194304 * (k : Int) := by decide +kernel
theorem f2 : ∀ k : Nat, k < 64 → k.testBit 4 = false → bsum (ordL (klets k ++ [67])) = 4194304 * (k : Int) ∧ (ordL (klets k ++ [67])).contains 67 = true := by decide +kernel
theorem f3 : ∀ k : Nat, k < 64 → (ordL (klets k)).contains 67 = k.testBit 4 := by decide +kernel
theorem t32 : ∀ c : Nat, c < 32 → 64 ≤ (if 1 ≤ c ∧ c ≤ 26 then c + 96 else c + 64) ∧ (if 1 ≤ c ∧ c ≤ 26 then c + 96 else c + 64) < 123 ∧ (if 1 ≤ c ∧ c ≤ 26 then c + 96 else c + 64) ≠ 96 ∧ (if 1 ≤ c ∧ c ≤ 26 then c + 96 else c + 64) % 32 = c := by decide
/-- an int key's text tells it -/
theorem tells_sign {c k : Nat} (v : VK c k) : Tells (signL c k) (.inl (ev c k)) := by
  unfold signL
  have g1 := f1 k v.hk
  by_cases h : c < 32
  · rw [if_pos h]
    have hb : k.testBit 4 = false := by
      cases e : k.testBit 4 with
      | false => rfl
      | true => have := (v.ok e).1; omega
    obtain ⟨g2, g2'⟩ := f2 k v.hk hb
    have g3 := f3 k v.hk
    rw [hb] at g3
    have word : ∀ (w : List Nat) (code : Nat), (Kd.word w code).ok → code = c → Tells (ltx (ordL (klets k ++ [])) ++ w) (.inl (ev c k)) := by
      rintro w code hok rfl
      refine ⟨klets k, .word w code, hok, by rw [List.append_nil]; rfl, ?_⟩
      rw [out_word]
      refine congrArg Sum.inl ?_
      unfold ev
      omega
    have sign : ∀ x : Nat, 64 ≤ x → x < 123 → x ≠ 96 → x % 32 = c → Tells (ltx (ordL (klets k ++ [67])) ++ [x]) (.inl (ev c k)) := by
      intro x h1 h2 h3 h4
      refine ⟨klets k ++ [67], .sign x, by show x < 1114112; omega, rfl, ?_⟩
      rw [out_sign, if_pos ⟨g2', h1, h2, h3⟩, g2, h4]
      rfl
    unfold ctlT
    by_cases h9 : c = 9
    · subst h9
      rw [if_pos rfl]
      cases k.testBit 5
      · exact word [84, 65, 66] 9 (by simp [Kd.ok]) rfl
      · exact sign 105 (by decide) (by decide) (by decide) (by decide)
    rw [if_neg h9]
    by_cases h13 : c = 13
    · subst h13
      rw [if_pos rfl]
      exact word [82, 69, 84] 13 (by simp [Kd.ok]) rfl
    rw [if_neg h13]
    by_cases h27 : c = 27
    · subst h27
      rw [if_pos rfl]
      exact word [69, 83, 67] 27 (by simp [Kd.ok]) rfl
    rw [if_neg h27]
    show Tells (ltx (ordL (klets k ++ [67])) ++ [if 1 ≤ c ∧ c ≤ 26 then c + 96 else c + 64]) _
    obtain ⟨q1, q2, q3, q4⟩ := t32 c h
    exact sign _ q1 q2 q3 q4
  · rw [if_neg h]
    have word : ∀ (w : List Nat) (code : Nat), (Kd.word w code).ok → code = c → Tells (ltx (ordL (klets k)) ++ w) (.inl (ev c k)) := by
      rintro w code hok rfl
      refine ⟨klets k, .word w code, hok, rfl, ?_⟩
      rw [out_word]
      refine congrArg Sum.inl ?_
      unfold ev
      omega
    unfold codeL
    by_cases h32 : c = 32
    · subst h32; rw [if_pos rfl]; exact word _ 32 (by simp [Kd.ok]) rfl
    rw [if_neg h32]
    by_cases h127 : c = 127
    · subst h127; rw [if_pos rfl]; exact word _ 127 (by simp [Kd.ok]) rfl
    rw [if_neg h127]
    refine ⟨klets k, .sign c, v.hc, rfl, ?_⟩
    rw [out_sign, if_neg ?_]
    · refine congrArg Sum.inl ?_
      unfold ev
      omega
    · rintro ⟨q1, q2, q3, q4⟩
      rw [f3 k v.hk] at q1
      have q5 := (v.ok q1).2
      unfold hcc at q5
      simp at q5
      omega
/-- a text key's text tells it -/
theorem tells_name {L nm : List Nat} (g : GoodNm nm) : Tells (ltx (ordL L) ++ (60 :: (nm ++ [62]))) (.inr (ltx (ordL L) ++ nm)) := ⟨L, .name nm, ⟨g.h1, g.h6, g.hd⟩, rfl, rfl⟩
theorem ev_inj {c k c' k' : Nat} (h : c < 1114112) (h' : c' < 1114112) (e : ev c k = ev c' k') : c = c' ∧ k = k' := by
  unfold ev at e; omega
theorem name_inj {L nm L' nm' : List Nat} (g : GoodNm nm) (g' : GoodNm nm') (e : ltx (ordL L) ++ nm = ltx (ordL L') ++ nm') : ordL L = ordL L' ∧ nm = nm' := ltx_inj _ _ _ _ g.st g'.st g.h1 g'.h1 e
end Mine
namespace Mine
set_option maxRecDepth 100000
set_option maxHeartbeats 8000000
/-- a key and its text -/
noncomputable def Wd (v : Value) (txt : List Nat) : Prop :=
  (∃ c k t, v = .int (ev c k) t ∧ VK c k ∧ txt = signL c k) ∨ ∃ L nm t, v = .str (S (ltx (ordL L) ++ nm)) t ∧ GoodNm nm ∧ txt = ltx (ordL L) ++ (60 :: (nm ++ [62]))
theorem IsKey.wd {v : Value} (h : IsKey v) : ∃ txt, Wd v txt := by
  rcases h with ⟨c, k, t, e, hv⟩ | ⟨L, nm, t, e, g⟩
  · exact ⟨_, .inl ⟨c, k, t, e, hv, rfl⟩⟩
  · exact ⟨_, .inr ⟨L, nm, t, e, g, rfl⟩⟩
theorem isL_mem {l : List Nat} : ∀ x ∈ ordL l, isL x := by
  intro c hc
  have h1 : c ∈ LET := (List.mem_filter.mp hc).1
  obtain ⟨i, hi⟩ := List.mem_iff_getElem?.mp h1
  exact isL_get hi
theorem ltx_len8 {L nm : List Nat} (g : GoodNm nm) : (ltx (ordL L) ++ nm).length ≤ 1000 := by
  have := g.h6
  rw [List.length_append, ltx_length]
  have := ordL_length L
  omega
theorem nameL_false (L nm : List Nat) : nameL (ordL L) nm false = ltx (ordL L) ++ (60 :: (nm ++ [62])) := by
  unfold nameL; rw [ordL_idem, ordL_idem]; rfl
theorem nameL_true (L nm : List Nat) : nameL (ordL L) nm true = ltx (ordL L) ++ nm := by
  unfold nameL; rw [ordL_idem, ordL_idem]; rfl
/-- a key's text, asked plainly -/
theorem c_skdK {v : Value} {txt : List Nat} (h : Wd v txt) : Calls 171 4 40 [v] [] (RStr (S txt)) := by
  rcases h with ⟨c, k, t, rfl, hv, rfl⟩ | ⟨L, nm, t, rfl, g, rfl⟩
  · exact c_skdI c k t hv
  · have := c_skdS (ordL L) nm t isL_mem (ordL_length L) g.h1 g.h6 g.st
    rw [nameL_false] at this
    exact this
theorem c_skdB {L nm : List Nat} (t : Tok) (g : GoodNm nm) : Calls 171 4 40 [.str (S (ltx (ordL L) ++ nm)) t, .bool true] [] (RStr (S (ltx (ordL L) ++ nm))) := by
  have := c_skdS2 (ordL L) nm true t isL_mem (ordL_length L) g.h1 g.h6 g.st
  rw [nameL_true] at this
  exact this
theorem read_res {X : List Nat} {kd : Kd} {n : Int} {r : Value} {own : List (Addr × Obj)} (e : kd.out X = .inl n) (h : kd.res X r own) : RInt n r own := by
  cases kd with
  | name nm => cases e
  | word w code => injection e with e; rw [← e]; exact h
  | sign c => injection e with e; rw [← e]; exact h
theorem read_resS {X : List Nat} {kd : Kd} {l : List Nat} {r : Value} {own : List (Addr × Obj)} (e : kd.out X = .inr l) (h : kd.res X r own) : RStr (S l) r own := by
  cases kd with
  | name nm => injection e with e; rw [← e]; exact h
  | word w code => cases e
  | sign c => cases e
theorem Calls.mono {f : Addr} {d u : Nat} {vs : List Value} {own : List (Addr × Obj)} {R R' : Value → List (Addr × Obj) → Prop} (C : Calls f d u vs own R) (h : ∀ r o, R r o → R' r o) : Calls f d u vs own R' := by
  intro w mean mg mb dp un gd cn cs a ccd cl outer A₀ base h₀ L m s Q E B F X N T hk hdp hun hret
  exact C w mean mg mb dp un gd cn cs a ccd cl outer A₀ base h₀ L m s Q E B F X N T hk hdp hun fun r own' h' tk' a b c d e => hret r own' h' tk' a b c d (h _ _ e)
theorem c_readI {c k : Nat} (t : Tok) (v : VK c k) : Calls 216 2 16 [.str (S (signL c k)) t] [] (RInt (ev c k)) := by
  obtain ⟨X, kd, hok, e, ho⟩ := tells_sign v
  rw [e]
  exact (c_read X kd t hok).mono fun r o h => read_res ho h
theorem c_readS {L nm : List Nat} (t : Tok) (g : GoodNm nm) : Calls 216 2 16 [.str (S (ltx (ordL L) ++ (60 :: (nm ++ [62])))) t] [] (RStr (S (ltx (ordL L) ++ nm))) := by
  obtain ⟨X, kd, hok, e, ho⟩ := tells_name (L := L) g
  rw [e]
  exact (c_read X kd t hok).mono fun r o h => read_resS ho h
theorem eqT {a b : List Nat} : (S a == S b) = decide (a = b) := eq_S
/-- texts are equal just if keys are -/
theorem eq_II {c k c' k' : Nat} (v : VK c k) (v' : VK c' k') : (signL c k = signL c' k') ↔ (ev c k = ev c' k') := by
  constructor
  · intro e
    have := Tells.inj (tells_sign v) (tells_sign v') e
    injection this
  · intro e
    obtain ⟨rfl, rfl⟩ := ev_inj v.hc v'.hc e
    rfl
theorem eq_IS {c k : Nat} {L nm : List Nat} (v : VK c k) (g : GoodNm nm) : signL c k ≠ ltx (ordL L) ++ (60 :: (nm ++ [62])) := by
  intro e
  have := Tells.inj (tells_sign v) (tells_name (L := L) g) e
  cases this
theorem eq_SS {L nm L' nm' : List Nat} (g : GoodNm nm) (g' : GoodNm nm') : (ltx (ordL L) ++ (60 :: (nm ++ [62])) = ltx (ordL L') ++ (60 :: (nm' ++ [62]))) ↔ (ltx (ordL L) ++ nm = ltx (ordL L') ++ nm') := by
  constructor
  · intro e
    have := Tells.inj (tells_name (L := L) g) (tells_name (L := L') g') e
    injection this
  · intro e
    obtain ⟨e1, e2⟩ := name_inj g g' e
    rw [e1, e2]
/-- is it controlled -/
theorem ctl_is {c k : Nat} (v : VK c k) : (Builtin.bitAnd (ev c k) 67108864 != 0) = decide ((ev c k / 67108864) % 2 = 1) := by
  have h := and_ev (c := c) (k := k) (j := 4) v.hc
  rw [show ((2 ^ (22 + 4) : Nat) : Int) = 67108864 from by decide] at h
  rw [h]
  have e : k.testBit 4 = decide ((k / 16) % 2 = 1) := by
    rw [Nat.testBit_eq_decide_div_mod_eq]
  rw [e]
  have e2 : (ev c k / 67108864) % 2 = (((k / 16) % 2 : Nat) : Int) := by
    have e3 : ev c k = ((4194304 * k + c : Nat) : Int) := Int.add_comm _ _
    have e4 : (4194304 * k + c) / 67108864 = k / 16 := by
      rw [show 67108864 = 4194304 * 16 from rfl, ← Nat.div_div_eq_div_mul, Nat.mul_add_div (by decide), Nat.div_eq_of_lt (Nat.lt_trans v.hc (by decide)), Nat.add_zero]
    rw [e3, ← e4]
    rfl
  rw [e2]
  rcases Nat.mod_two_eq_zero_or_one (k / 16) with q | q
  · rw [q]; decide
  · rw [q]; decide
theorem ctl_ne {c k : Nat} (v : VK c k) : ((Builtin.bitAnd (ev c k) 67108864 != 0) != (((ev c k).fdiv 67108864).fmod 2 == 1)) = false := by
  rw [ctl_is v, Int.fdiv_eq_ediv_of_nonneg _ (by decide), Int.fmod_eq_emod_of_nonneg _ (by decide)]
  by_cases q : (ev c k / 67108864) % 2 = 1
  · rw [q]; decide
  · rw [decide_eq_false q, beq_false_of_ne q]; rfl
/-- the same value, its token apart -/
noncomputable def SameV (v r : Value) : Prop := (∃ n t0 t, v = .int n t0 ∧ r = .int n t) ∨ ∃ x t0 t, v = .str x t0 ∧ r = .str x t
noncomputable def RSame (v r : Value) (_own' : List (Addr × Obj)) : Prop := SameV v r
theorem c_readK {v : Value} {txt : List Nat} (t : Tok) (h : Wd v txt) : Calls 216 2 16 [.str (S txt) t] [] (RSame v) := by
  rcases h with ⟨c, k, t0, rfl, hv, rfl⟩ | ⟨L, nm, t0, rfl, g, rfl⟩
  · exact (c_readI t hv).mono fun r o ⟨t', e⟩ => .inl ⟨_, _, _, rfl, e⟩
  · exact (c_readS t g).mono fun r o ⟨t', e⟩ => .inr ⟨_, _, _, rfl, e⟩
theorem RSame.use {f : Addr} {d u : Nat} {vs : List Value} {v : Value} (C : Calls f d u vs [] (RSame v)) {w : World} {mean : ExcName → Option Value} {mg mb : Str → Option Value} {dp un : Nat} {gd : Option (List Code)} {cn : Str} {cs : Scope} {a : Addr} {ccd : Value} {cl : List (Str × Addr)} {outer : List Env} {A₀ : Around} {base h₀ : Heap} {L : Addr} {m : Str → Option Value} {s : Shared} {Q E : Value → Shared → Prop} {news : List (Addr × Obj)}
    (B : Below A₀ base outer h₀) (F : Fr h₀ L s.heap m) (X : (KF w.params).In h₀) (N : News h₀ L s.heap news) (T : Top hd.view_39 LL mean mg mb h₀) (hk : cs.kind = .function) (hdp : dp + d < recursionLimit) (hun : un + u < cLine)
    (ret : ∀ (r : Value) (h' : Heap) (tk' : Nat), SameV v r → Fr h₀ L h' m → News h₀ L h' news → Q r { s with heap := h', toks := tk' }) : wpAny (model PG w) (ktrTop dp un gd cn cs L a ccd cl outer) (call (.ref f) vs) Q E s :=
  C.use0 B F X N T hk hdp hun fun r _ h' tk' F' N' _ e => ret r h' tk' e F' (News.right N')
section
variable {prog : Program} {w : World} {A : Around} {E : Value → Shared → Prop} {s : Shared} {Q : Value → Shared → Prop}
theorem ne_same {v r : Value} (h : SameV v r) (hq : Q (.bool false) s) : wpAny (model prog w) A (compareOp .NotEq r v) Q E s := by
  rcases h with ⟨n, t0, t, rfl, rfl⟩ | ⟨x, t0, t, rfl, rfl⟩
  · exact PyProof.Rows.ne_int (by rw [bne_self_eq_false]; exact hq)
  · exact PySem.P.ne_str (by rw [bne_self_eq_false]; exact hq)
theorem eq_wd {v v2 : Value} {txt txt2 : List Nat} (h : Wd v txt) (h2 : Wd v2 txt2) (hq : Q (.bool (S txt == S txt2)) s) : wpAny (model prog w) A (compareOp .Eq v v2) Q E s := by
  rw [eq_S] at hq
  rcases h with ⟨c, k, t0, rfl, hv, rfl⟩ | ⟨L, nm, t0, rfl, g, rfl⟩ <;> rcases h2 with ⟨c', k', t0', rfl, hv', rfl⟩ | ⟨L', nm', t0', rfl, g', rfl⟩
  · refine PyProof.Rows.eq_int ?_
    rw [show (ev c k == ev c' k') = decide (signL c k = signL c' k') from (decide_eq_decide.mpr (eq_II hv hv').symm)]
    exact hq
  · refine PySem.EqMixed.eq_int_str ?_
    rw [decide_eq_false (eq_IS hv g')] at hq
    exact hq
  · refine PySem.EqMixed.eq_str_int ?_
    rw [decide_eq_false fun e => eq_IS hv' g e.symm] at hq
    exact hq
  · refine PySem.P.eq_str ?_
    rw [show ((S (ltx (ordL L) ++ nm)).cps.toList == (S (ltx (ordL L') ++ nm')).cps.toList) = decide (ltx (ordL L) ++ (60 :: (nm ++ [62])) = ltx (ordL L') ++ (60 :: (nm' ++ [62]))) from by
      rw [Bool.eq_iff_iff, decide_eq_true_iff, eq_SS g g', beq_iff_eq]; rfl]
    exact hq
end
/-- the ten names that are asked -/
noncomputable def NMS : List Str := [Str.ofString "NUL", Str.ofString "TAB", Str.ofString "LFD", Str.ofString "RET", Str.ofString "ESC", Str.ofString "SPC", Str.ofString "DEL", Str.ofString "tab", Str.ofString "", Str.ofString "X"]
theorem RNamed.use {f : Addr} {d u : Nat} {vs : List Value} {x : Str} (C : Calls f d u vs [] (RNamed x)) {w : World} {mean : ExcName → Option Value} {mg mb : Str → Option Value} {dp un : Nat} {gd : Option (List Code)} {cn : Str} {cs : Scope} {a : Addr} {ccd : Value} {cl : List (Str × Addr)} {outer : List Env} {A₀ : Around} {base h₀ : Heap} {L : Addr} {m : Str → Option Value} {s : Shared} {Q E : Value → Shared → Prop} {news : List (Addr × Obj)}
    (B : Below A₀ base outer h₀) (F : Fr h₀ L s.heap m) (X : (KF w.params).In h₀) (N : News h₀ L s.heap news) (T : Top hd.view_39 LL mean mg mb h₀) (hk : cs.kind = .function) (hdp : dp + d < recursionLimit) (hun : un + u < cLine)
    (ret : ∀ (r : Value) (h' : Heap) (tk' : Nat), RNamed x r [] → Fr h₀ L h' m → News h₀ L h' news → Q r { s with heap := h', toks := tk' }) : wpAny (model PG w) (ktrTop dp un gd cn cs L a ccd cl outer) (call (.ref f) vs) Q E s :=
  C.use0 B F X N T hk hdp hun fun r _ h' tk' F' N' _ e => ret r h' tk' e F' (News.right N')
theorem items_at {i : Nat} {v : Value} : ∀ l : List (Str × Tok), (l.map fun p => Value.str p.1 p.2)[i]? = some v → ∃ x t, v = .str x t ∧ (l.map (·.1))[i]? = some x := by
  intro l h
  rw [List.getElem?_map] at h ⊢
  cases e : l[i]? with
  | none => rw [e] at h; cases h
  | some p => rw [e] at h; cases h; exact ⟨_, _, rfl, rfl⟩
theorem nm_item {t0 t1 t2 t3 t4 t5 t6 t7 t8 t9 : Tok} {i : Nat} {v : Value}
    (h : ([.str (Str.ofString "NUL") t0, .str (Str.ofString "TAB") t1, .str (Str.ofString "LFD") t2, .str (Str.ofString "RET") t3, .str (Str.ofString "ESC") t4, .str (Str.ofString "SPC") t5, .str (Str.ofString "DEL") t6, .str (Str.ofString "tab") t7, .str (Str.ofString "") t8, .str (Str.ofString "X") t9] : List Value)[i]? = some v) :
    ∃ x t, v = .str x t ∧ NMS[i]? = some x :=
  items_at [(_, t0), (_, t1), (_, t2), (_, t3), (_, t4), (_, t5), (_, t6), (_, t7), (_, t8), (_, t9)] h
/-- each is what its name stands for -/
noncomputable def Nmd : List Str → List Value → Prop
  | [], ys => ys = []
  | x :: xs, ys => ∃ r rs, ys = r :: rs ∧ RNamed x r [] ∧ Nmd xs rs
theorem Nmd.snoc {x : Str} {r : Value} (hr : RNamed x r []) : ∀ {xs : List Str} {ys : List Value}, Nmd xs ys → Nmd (xs ++ [x]) (ys ++ [r])
  | [], _, h => by cases h; exact ⟨_, _, rfl, hr, rfl⟩
  | _ :: _, _, ⟨_, _, e, h1, h2⟩ => by subst e; exact ⟨_, _, rfl, h1, h2.snoc hr⟩
/-- the codes so far -/
noncomputable def JN (nw0 : List (Addr × Obj)) (i : Nat) (ys : List Value) (nw : List (Addr × Obj)) : Prop := nw = nw0 ∧ Nmd (NMS.take i) ys
theorem JN.snoc {nw0 nw : List (Addr × Obj)} {i : Nat} {ys : List Value} {x : Str} {r : Value} (h : JN nw0 i ys nw) (hx : NMS[i]? = some x) (hr : RNamed x r []) : JN nw0 (i + 1) (ys ++ [r]) nw := by
  refine ⟨h.1, ?_⟩
  rw [List.take_add_one, hx]
  exact h.2.snoc hr
noncomputable def tokOf : Value → Tok
  | .int _ t => t
  | _ => default
noncomputable def vOf : Option Int → Value → Value
  | some i, r => .int i (tokOf r)
  | none, _ => .none
noncomputable def toV : List (Option Int) → List Value → List Value
  | [], _ => []
  | c :: cs, ys => vOf c (ys.headD .none) :: toV cs ys.tail
theorem RNamed.is {x : Str} {r : Value} (h : RNamed x r []) : r = vOf (codeNamed x) r := by
  unfold RNamed at h
  split at h
  · rename_i e; rw [e]; obtain ⟨t, rfl⟩ := h; rfl
  · rename_i e; rw [e]; exact h
theorem Nmd.is : ∀ {xs : List Str} {ys : List Value}, Nmd xs ys → ys = toV (xs.map codeNamed) ys
  | [], _, h => h
  | _ :: _, _, ⟨_, _, e, h1, h2⟩ => by
    subst e
    show _ :: _ = vOf (codeNamed _) _ :: toV (_) _
    exact congr (congrArg List.cons h1.is) h2.is
theorem JN.fin {nw0 nw : List (Addr × Obj)} {ys : List Value} (h : JN nw0 10 ys nw) : ∃ t0 t1 t2 t3 t4 t5 t6, ys = [.int 0 t0, .int 9 t1, .int 10 t2, .int 13 t3, .int 27 t4, .int 32 t5, .int 127 t6, .none, .none, .none] := by
  have e := h.2.is
  rw [show (NMS.take 10).map codeNamed = [some 0, some 9, some 10, some 13, some 27, some 32, some 127, none, none, none] from by decide +kernel] at e
  exact ⟨_, _, _, _, _, _, _, e⟩
end Mine
namespace Mine
set_option maxRecDepth 100000
set_option maxHeartbeats 8000000
open LCg LCt
theorem fillK16 : (fun (_ : OpenLaw) (_ : Params → Frag) => True) PySem.Challenge.rw_oj0022_01 Mine.KF := by
  k_fill
  trivial
structure Mark : Prop where
  here : True
structure Hold (p : Prop) : Prop where
  out : p
theorem pot_of {P C : Addr} {ys : List Value} {ns : List Int} {x : Int} {ta ts : Tok} (ne : @Ne Nat P C) (hi : IntsAre ys ns) (hl : ns.length ≤ 48) : Pot P C [(P, listOf #[.ref C, .int 0 ta, .int (223 + x.fmod 65519) ts] 0), (C, lst ys)] :=
  ⟨ne, ys, ns, ys.length, 0, 0, _, ta, ts, rfl, hi, hl, Int.le_refl _, by rw [Int.fmod_eq_emod_of_nonneg _ (by decide)]; omega, by rw [Int.fmod_eq_emod_of_nonneg _ (by decide)]; omega⟩
theorem pot_news {h₀ h : Heap} {L P C D1 K : Addr} {oK : Obj} {ys ws : List Value} {ns : List Int} {x : Int} {ta ts : Tok} {n1 : Nat} (N : News h₀ L h [(P, listOf #[.ref C, .int 0 ta, .int (223 + x.fmod 65519) ts] 0), (C, lst ys), (D1, listOf ws.toArray n1), (K, oK)])
    (hi : IntsAre ys ns) (hl : ns.length ≤ 48) (l1 : (@LT.lt Nat _ C P) ∧ (@LT.lt Nat _ D1 P) ∧ (@LT.lt Nat _ K P)) (o1 : (@Ne Nat D1 C) ∧ (@Ne Nat K C)) : ∃ po, Pot P C po ∧ News h₀ L h ((K, oK) :: po) ∧ (@Ne Nat P K) ∧ (@Ne Nat C K) := by
  refine ⟨_, pot_of (x := x) (ta := ta) (ts := ts) (Nat.ne_of_gt l1.1) hi hl, fun p hp => N p ?_, Nat.ne_of_gt l1.2.2, Ne.symm o1.2⟩
  simp only [List.mem_cons, List.not_mem_nil, or_false] at hp ⊢
  rcases hp with h | h | h
  · exact .inr (.inr (.inr h))
  · exact .inl h
  · exact .inr (.inl h)
/-- eight keys -/
noncomputable def JKs (P C K : Addr) (oK : Obj) (i : Nat) (ys : List Value) (nw : List (Addr × Obj)) : Prop := ys.length = i ∧ (∀ v ∈ ys, IsKey v) ∧ ∃ po, Pot P C po ∧ nw = (K, oK) :: po
/-- the texts so far -/
noncomputable def JWd (ks : List Value) (nw0 : List (Addr × Obj)) (i : Nat) (ws : List Value) (nw : List (Addr × Obj)) : Prop := nw = nw0 ∧ ws.length = i ∧ ∀ j v, j < i → ks[j]? = some v → ∃ txt t, ws[j]? = some (.str (S txt) t) ∧ Wd v txt
theorem JWd.snoc {ks : List Value} {nw0 nw : List (Addr × Obj)} {i : Nat} {ws : List Value} {v : Value} {txt : List Nat} {t : Tok} (h : JWd ks nw0 i ws nw) (hv : ks[i]? = some v) (hw : Wd v txt) : JWd ks nw0 (i + 1) (ws ++ [.str (S txt) t]) nw := by
  obtain ⟨rfl, hl, ha⟩ := h
  refine ⟨rfl, by rw [List.length_append, hl]; rfl, fun j v' hj hv' => ?_⟩
  by_cases hji : j < i
  · obtain ⟨txt', t', h1, h2⟩ := ha j v' hji hv'
    exact ⟨txt', t', by rw [List.getElem?_append_left (by omega)]; exact h1, h2⟩
  · obtain rfl : j = i := by omega
    rw [hv] at hv'
    cases hv'
    exact ⟨txt, t, by rw [List.getElem?_append_right (by omega), hl, Nat.sub_self]; rfl, hw⟩
theorem newsMid {h₀ h : Heap} {L : Addr} {own po : List (Addr × Obj)} {x : Addr × Obj} (N : News h₀ L h (own ++ x :: po)) : News h₀ L h (x :: (own ++ po)) := fun p hp => N p (by
  rcases List.mem_cons.mp hp with rfl | hp
  · exact List.mem_append_right _ List.mem_cons_self
  · rcases List.mem_append.mp hp with hp | hp
    · exact List.mem_append_left _ hp
    · exact List.mem_append_right _ (List.mem_cons_of_mem _ hp))
theorem newsMid' {h₀ h : Heap} {L : Addr} {own po : List (Addr × Obj)} {x : Addr × Obj} (N : News h₀ L h (x :: (own ++ po))) : News h₀ L h (own ++ x :: po) := fun p hp => N p (by
  rcases List.mem_append.mp hp with hp | hp
  · exact List.mem_cons_of_mem _ (List.mem_append_left _ hp)
  · rcases List.mem_cons.mp hp with rfl | hp
    · exact List.mem_cons_self
    · exact List.mem_cons_of_mem _ (List.mem_append_right _ hp))
theorem newsHead {h₀ h : Heap} {L : Addr} {r : List (Addr × Obj)} {x : Addr × Obj} (N : News h₀ L h (x :: r)) : News h₀ L h [x] := fun p hp => by
  rw [List.mem_singleton.mp hp]; exact N x List.mem_cons_self
theorem offPot {P C K I : Addr} {oK : Obj} {po : List (Addr × Obj)} (kI : K ≠ I) (pI : P ≠ I) (cI : C ≠ I) (h : Pot P C po) : ∀ p ∈ (K, oK) :: po, p.1 ≠ I := fun p hp => by
  rcases List.mem_cons.mp hp with rfl | hp
  · exact kI
  · rcases h.at p hp with e | e
    · rw [e]; exact pI
    · rw [e]; exact cI
noncomputable def JS (P C K : Addr) (oK : Obj) (_ : Nat) (_ : Str → Option Value) (nw : List (Addr × Obj)) : Prop := ∃ po, Pot P C po ∧ nw = (K, oK) :: po
theorem tcd_a {c : Nat} (h : 32 ≤ (c : Int)) (h' : (c : Int) ≠ 127) : (⟨#[(c : Int).toNat]⟩ : Str) = S (tcdL c) := by
  unfold tcdL
  rw [if_neg (by omega), if_neg (by omega), Int.toNat_natCast]
  rfl
theorem tcd_b {c : Nat} (h : (c : Int) = 127) : Str.ofString "^?" = S (tcdL c) := by
  obtain rfl : c = 127 := by omega
  decide +kernel
theorem tcd_c {c : Nat} (h : ¬ 32 ≤ (c : Int)) : (Str.ofString "^" ++ ⟨#[((c : Int) + 64).toNat]⟩ : Str) = S (tcdL c) := by
  unfold tcdL
  rw [if_pos (by omega), show (Str.ofString "^") = S [94] from by decide +kernel, show ((c : Int) + 64).toNat = c + 64 by omega]
  exact S_append [94] [c + 64]
theorem cutDue {prog : Program} {w : World} {A : Around} {E : Value → Shared → Prop} {s : Shared} {h₀ : Heap} {L : Addr} {m : Str → Option Value} {news : List (Addr × Obj)} {t : Sem Flow} {Q : Flow → Shared → Prop} {c : Nat} (_ : (c : Int) < 160) (F : Fr h₀ L s.heap m) (N : News h₀ L s.heap news) (h1 : wpAny (model prog w) A t (MidS h₀ L m news (Str.ofString "due") (S (tcdL c)) s) E s)
    (h2 : ∀ h tk t, (S (tcdL c) != S (tcdL c)) = false → Fr h₀ L h (fun y => if y = Str.ofString "due" then some (.str (S (tcdL c)) t) else m y) → News h₀ L h news → Q .next { s with heap := h, toks := tk }) : wpAny (model prog w) A t Q E s :=
  cutS _ _ F N h1 fun h tk t F N => h2 h tk t (bne_self_eq_false _) F N
theorem offNil {l : List (Addr × Obj)} {D : Addr} : ∀ {l : List (Addr × Obj)}, Off1 D l → ∀ p ∈ l, p.1 ≠ D
  | [], _, _, h => nomatch h
  | _ :: _, x, p, h => (List.mem_cons.mp h).elim (fun e => e ▸ x.1) (offNil (l := []) x.2 p)
theorem RKey.useP {f : Addr} {d u : Nat} {vs : List Value} {own : List (Addr × Obj)} {P C : Addr} (K : Calls f d u vs own (RKey P C)) (hP : Pot P C own) {w : World} {mean : ExcName → Option Value} {mg mb : Str → Option Value} {dp un : Nat} {gd : Option (List Code)} {cn : Str} {cs : Scope} {a : Addr} {ccd : Value} {cl : List (Str × Addr)} {outer : List Env} {A₀ : Around} {base h₀ : Heap} {L : Addr} {m : Str → Option Value} {s : Shared} {Q E : Value → Shared → Prop} {news rest : List (Addr × Obj)}
    (B : Below A₀ base outer h₀) (F : Fr h₀ L s.heap m) (X : (KF w.params).In h₀) (N : News h₀ L s.heap news) (T : Top hd.view_39 LL mean mg mb h₀) (hk : cs.kind = .function) (hdp : dp + d < recursionLimit) (hun : un + u < cLine)
    (hs : Splits news rest own) (hoff : Off2 P C rest)
    (ret : ∀ (r : Value) (own' : List (Addr × Obj)) (h' : Heap) (tk' : Nat), IsKey r → Pot P C own' → Fr h₀ L h' m → News h₀ L h' (rest ++ own') → Q r { s with heap := h', toks := tk' }) : wpAny (model PG w) (ktrTop dp un gd cn cs L a ccd cl outer) (call (.ref f) vs) Q E s :=
  K.useP hP B F X N T hk hdp hun hs hoff fun r own' h' tk' F' N' _ ⟨k, p⟩ => ret r own' h' tk' k p F' N'
theorem RDip.useN {f : Addr} {d u : Nat} {vs : List Value} {own : List (Addr × Obj)} {P C : Addr} {many : Int} (K : Calls f d u vs own (RDip P C many)) (hP : Pot P C own) {w : World} {mean : ExcName → Option Value} {mg mb : Str → Option Value} {dp un : Nat} {gd : Option (List Code)} {cn : Str} {cs : Scope} {a : Addr} {ccd : Value} {cl : List (Str × Addr)} {outer : List Env} {A₀ : Around} {base h₀ : Heap} {L : Addr} {m : Str → Option Value} {s : Shared} {Q E : Value → Shared → Prop} {news rest : List (Addr × Obj)}
    (B : Below A₀ base outer h₀) (F : Fr h₀ L s.heap m) (X : (KF w.params).In h₀) (N : News h₀ L s.heap news) (T : Top hd.view_39 LL mean mg mb h₀) (hk : cs.kind = .function) (hdp : dp + d < recursionLimit) (hun : un + u < cLine)
    (hs : Splits news rest own) (hoff : Off2 P C rest)
    (ret : ∀ (c : Nat) (t : Tok) (own' : List (Addr × Obj)) (h' : Heap) (tk' : Nat), (c : Int) < many → Pot P C own' → Fr h₀ L h' m → News h₀ L h' (rest ++ own') → Q (.int (c : Int) t) { s with heap := h', toks := tk' }) : wpAny (model PG w) (ktrTop dp un gd cn cs L a ccd cl outer) (call (.ref f) vs) Q E s :=
  K.useP hP B F X N T hk hdp hun hs hoff fun _ own' h' tk' F' N' _ ⟨x, t, e, lo, hi, p⟩ => by
    obtain ⟨c, rfl⟩ := Int.eq_ofNat_of_zero_le lo
    exact e ▸ ret c t own' h' tk' hi p F' N'
local macro_rules | `(tactic| walk_at "compareOp NotEq") => `(tactic| (k_here; refine ne_same (by assumption) ?_))
local macro_rules | `(tactic| walk_at "compareOp Eq") => `(tactic| (k_here; refine eq_wd (by assumption) (by assumption) ?_))
local macro_rules | `(tactic| walk_at "subscriptTail") => `(tactic| (k_here; (refine' itemL ?N ?m ?l ?x ?_; (case N => k_asm); (case m => kcf_m); (case l => omega); (case x => assumption); k_whole)))
set_option maxHeartbeats 8000000 in
theorem main : PySem.Challenge.rw_oj0022_01.Holds := hd (by
  k_go0
  (all_goals try k_fold)
  repeat' (
    fail_if_success (with_reducible show wpAny _ _ (exec (.Assign _ (.ListComp (.Call (.Name (Str.ofString "_law_key") _) _ _ _) _ _ _) _) _) _ _ _)
    first | (k_unfold; (try dsimp only)) | (k_end; wrow_close) | ((with_reducible show wpAny _ _ (call (.ref _) _) _ _ _); with_reducible (first | (o_head ((RKey.useP (c_key _ _ _ 0 (by assumption)) (by assumption)), ()); walk_at "c_gD") | (o_head ((RDip.useN (c_dip _ _ _ _ _ (by assumption) (by decide) (by decide)) (by assumption)), ()); walk_at "c_gD") | (o_head (RStr.use (c_skdK (by assumption))); walk_at "c_gI") | (o_head (RSame.use (c_readK _ (by assumption))); walk_at "c_gI") | (o_head (RStr.use (c_skdI2 _ _ _ _ (by assumption))); walk_at "c_gI") | (o_head (RStr.use (c_skdB _ (by assumption))); walk_at "c_gI") | (o_head (RVal.use (c_ctldI _ _ _ (by assumption))); walk_at "c_gI") | (o_head (RVal.use (c_ctldS _ _)); walk_at "c_gI") | (o_head (RStr.use (c_tcd _ _ (by omega))); walk_at "c_gI") | (o_head (RNamed.use (c_named _ _)); walk_at "c_gI"))) | ((with_reducible show Mid ..); with_reducible ((k_here; exact Mid.intro (by k_asm) (by k_asm)))) | ((with_reducible show MidS ..); with_reducible ((rename Mark => hMark9; refine Hold.out ?_))) | ((with_reducible show InvEnd ..); with_reducible ((rename Mark => hMark9; refine Hold.out ?_))) | ((with_reducible show REnd ..); with_reducible ((rename Mark => hMark9; refine Hold.out ?_))) | ((with_reducible show RPost ..); with_reducible (dsimp only [RPost])) | ((with_reducible show wpAny _ _ (pyIter (.ref _)) _ _ _); with_reducible ((rename Mark => hMark9; refine Hold.out ?_))) | ((with_reducible show wpAny _ _ (call (.type "enumerate") _) _ _ _); with_reducible ((rename Mark => hMark9; refine Hold.out ?_))) | ((with_reducible show wpAny _ _ (exec (.For (.Name ..) (.Call ..) ..) _) _ _ _); with_reducible ((k_here; (rename Fr _ _ _ _ => lF'); (with_unfolding_all refine' For_invVF lF' ?k1 ?k2 ?_; (case k1 => exact rfl); (case k2 => exact rfl); k_whole)))) | ((with_reducible show wpAny _ _ (exec (.For (.Tuple ..) (.Call ..) ..) _) _ _ _); with_reducible ((k_here; (rename Fr _ _ _ _ => lF'); (with_unfolding_all refine' For_turns lF' ?_; k_whole)))) | ((with_reducible show wpAny _ _ (exec (.Assign _ (.ListComp ..) ..) _) _ _ _); with_reducible ((k_here; rename Mark => hMark9; k_dflt (refine LCg.Assign_ListComp_U (F₀ := by k_asm) (by rfl) (by with_unfolding_all rfl) (by with_unfolding_all rfl) (by decide) (by rfl) (by decide) (by rfl) (by rfl) (by rfl) ?_)))) | ((with_reducible show wpAny _ _ (eval (.ListComp ..) _) _ _ _); with_reducible ((k_here; rename Mark => hMark9; k_dflt (refine LCg.ListComp_U (F₀ := by k_asm) (by with_unfolding_all rfl) (by decide) (by rfl) (by decide) (by rfl) ?_)))) | ((with_reducible show LCg.CompEnd ..); with_reducible ((rename Mark => hMark9; refine Hold.out ?_))) | ((with_reducible show LCg.CompSrc ..); with_reducible ((rename Mark => hMark9; refine Hold.out ?_))) | ((with_reducible show LeaveO ..); with_reducible ((k_dflt (refine' LeaveO.intro ?k1 ?k2 ?_; (case k1 => k_asm); (case k2 => k_asm); k_whole; (try dsimp only))))) | walk1 | (dsimp only; walk1) | (leave1; walk_say "STEP leave1"; try dsimp only))
  rename IntsAre _ (List.map _ _) => hI8
  rename News _ _ _ _ => N₁
  rename (@LT.lt Nat _ _ _) ∧ (@LT.lt Nat _ _ _) ∧ (@LT.lt Nat _ _ _) => l1
  rename (@Ne Nat _ _) ∧ (@Ne Nat _ _) => o1
  obtain ⟨po, hPot, N₂, hPK, hCK⟩ := pot_news N₁ hI8 (by rw [List.length_map, List.length_take]; exact Nat.min_le_left _ _) l1 o1
  clear N₁ o1 l1 hI8
  try (rename CellsAre .. => z; clear z)
  try (rename CellsAre .. => z; clear z)
  try (rename Dflts .. => z; clear z)
  try (rename ReadsAllW .. => z; clear z)
  try (rename Reads .. => z; clear z)
  try (rename ReadsAllW .. => z; clear z)
  try (rename Reads .. => z; clear z)
  try (rename Well .. => z; clear z)
  try (rename Well .. => z; clear z)
  try (rename ReadsAll .. => z; clear z)
  try (rename ReadsAll .. => z; clear z)
  try (rename ReadsAll .. => z; clear z)
  try (rename Heap.IsList .. => z; clear z)
  try (rename Heap.IsList .. => z; clear z)
  try (rename Heap.IsList .. => z; clear z)
  try (rename IntsAre .. => z; clear z)
  try (rename IntsAre .. => z; clear z)
  try (rename IntsAre .. => z; clear z)
  try (rename Glob .. => z; clear z)
  try (rename Glob .. => z; clear z)
  try (rename Glob .. => z; clear z)
  try (rename Glob .. => z; clear z)
  try (rename BMod .. => z; clear z)
  try (rename BMod .. => z; clear z)
  try (rename BMod .. => z; clear z)
  try (rename Heap.CodeRec .. => z; clear z)
  try (rename TopW .. => z; clear z)
  try (rename TopE .. => z; clear z)
  try (rename Tables .. => z; clear z)
  try (rename LooseAre .. => z; clear z)
  try (rename Flt.MathXP .. => z; clear z)
  try (rename Ground .. => z; clear z)
  have hM : Mark := ⟨trivial⟩
  (repeat' (first | (k_unfold; (try dsimp only)) | (k_end; wrow_close) | ((with_reducible show wpAny _ _ (call (.ref _) _) _ _ _); with_reducible (first | (o_head ((RKey.useP (c_key _ _ _ 0 (by assumption)) (by assumption)), ()); walk_at "c_gD") | (o_head ((RDip.useN (c_dip _ _ _ _ _ (by assumption) (by decide) (by decide)) (by assumption)), ()); walk_at "c_gD") | (o_head (RStr.use (c_skdK (by assumption))); walk_at "c_gI") | (o_head (RSame.use (c_readK _ (by assumption))); walk_at "c_gI") | (o_head (RStr.use (c_skdI2 _ _ _ _ (by assumption))); walk_at "c_gI") | (o_head (RStr.use (c_skdB _ (by assumption))); walk_at "c_gI") | (o_head (RVal.use (c_ctldI _ _ _ (by assumption))); walk_at "c_gI") | (o_head (RVal.use (c_ctldS _ _)); walk_at "c_gI") | (o_head (RStr.use (c_tcd _ _ (by omega))); walk_at "c_gI") | (o_head (RNamed.use (c_named _ _)); walk_at "c_gI"))) | ((with_reducible show Mid ..); with_reducible ((k_here; exact Mid.intro (by k_asm) (by k_asm)))) | ((with_reducible show MidS ..); with_reducible ((rename Mark => hMark9; refine Hold.out ?_))) | ((with_reducible show InvEnd ..); with_reducible ((rename Mark => hMark9; refine Hold.out ?_))) | ((with_reducible show REnd ..); with_reducible ((rename Mark => hMark9; refine Hold.out ?_))) | ((with_reducible show RPost ..); with_reducible (dsimp only [RPost])) | ((with_reducible show wpAny _ _ (pyIter (.ref _)) _ _ _); with_reducible ((rename Mark => hMark9; refine Hold.out ?_))) | ((with_reducible show wpAny _ _ (call (.type "enumerate") _) _ _ _); with_reducible ((rename Mark => hMark9; refine Hold.out ?_))) | ((with_reducible show wpAny _ _ (exec (.For (.Name ..) (.Call ..) ..) _) _ _ _); with_reducible ((k_here; (rename Fr _ _ _ _ => lF'); (with_unfolding_all refine' For_invVF lF' ?k1 ?k2 ?_; (case k1 => exact rfl); (case k2 => exact rfl); k_whole)))) | ((with_reducible show wpAny _ _ (exec (.For (.Tuple ..) (.Call ..) ..) _) _ _ _); with_reducible ((k_here; (rename Fr _ _ _ _ => lF'); (with_unfolding_all refine' For_turns lF' ?_; k_whole)))) | ((with_reducible show wpAny _ _ (exec (.Assign _ (.ListComp ..) ..) _) _ _ _); with_reducible ((k_here; rename Mark => hMark9; k_dflt (refine LCg.Assign_ListComp_U (F₀ := by k_asm) (by rfl) (by with_unfolding_all rfl) (by with_unfolding_all rfl) (by decide) (by rfl) (by decide) (by rfl) (by rfl) (by rfl) ?_)))) | ((with_reducible show wpAny _ _ (eval (.ListComp ..) _) _ _ _); with_reducible ((k_here; rename Mark => hMark9; k_dflt (refine LCg.ListComp_U (F₀ := by k_asm) (by with_unfolding_all rfl) (by decide) (by rfl) (by decide) (by rfl) ?_)))) | ((with_reducible show LCg.CompEnd ..); with_reducible ((rename Mark => hMark9; refine Hold.out ?_))) | ((with_reducible show LCg.CompSrc ..); with_reducible ((rename Mark => hMark9; refine Hold.out ?_))) | ((with_reducible show LeaveO ..); with_reducible ((k_dflt (refine' LeaveO.intro ?k1 ?k2 ?_; (case k1 => k_asm); (case k2 => k_asm); k_whole; (try dsimp only))))) | walk1 | (dsimp only; walk1) | (leave1; walk_say "STEP leave1"; try dsimp only) | fail "no step"); (all_goals (try k_data)))
  refine ⟨LCg.CompSrc.range (n := 8) (news := (_, _) :: po) (by rfl) (by k_asm) (by k_asm) (by assumption) (by decide) (by first | exact rangeSize_nat _ _ | rfl) (by rw [PySem.sizeLine_eq]; decide) ?_⟩
  intro g₁
  refine rest_inv (JKs _ _ _ _) ?fin ?turn _ 0 _ _ (Nat.zero_add _) ⟨rfl, (fun _ h => nomatch h), po, by assumption, rfl⟩
  case turn =>
    rename News _ _ _ _ => N₃
    rename Fr _ _ _ _ => F₃
    clear N₃ F₃ hPot
    rintro i ys nw hi ⟨hlen, hkeys, po', hPo, rfl⟩ v I oI C9 oC D9 m₂ h tk E' hP hC hx F N off ne
    obtain ⟨⟨kI, kC, kD⟩, offP⟩ := off
    have offP := offP.mem
    obtain ⟨⟨oP, hPm⟩, oC2, hCm⟩ := hPo.has
    obtain ⟨pI, pC, pD⟩ := offP _ hPm
    obtain ⟨cI, cC, cD⟩ := offP _ hCm
    dsimp only at pI pC pD cI cC cD kI kC kD
    have pI' := neN pI.symm
    have pC' := neN pC.symm
    have pD' := neN pD.symm
    have cI' := neN cI.symm
    have cC' := neN cC.symm
    have cD' := neN cD.symm
    have hKP := neN hPK.symm
    have hKC := neN hCK.symm
    clear offP hPm hCm
    (repeat' (first | (k_unfold; (try dsimp only)) | (k_end; wrow_close) | ((with_reducible show wpAny _ _ (call (.ref _) _) _ _ _); with_reducible (first | (o_head ((RKey.useP (c_key _ _ _ 0 (by assumption)) (by assumption)), ()); walk_at "c_gD") | (o_head ((RDip.useN (c_dip _ _ _ _ _ (by assumption) (by decide) (by decide)) (by assumption)), ()); walk_at "c_gD") | (o_head (RStr.use (c_skdK (by assumption))); walk_at "c_gI") | (o_head (RSame.use (c_readK _ (by assumption))); walk_at "c_gI") | (o_head (RStr.use (c_skdI2 _ _ _ _ (by assumption))); walk_at "c_gI") | (o_head (RStr.use (c_skdB _ (by assumption))); walk_at "c_gI") | (o_head (RVal.use (c_ctldI _ _ _ (by assumption))); walk_at "c_gI") | (o_head (RVal.use (c_ctldS _ _)); walk_at "c_gI") | (o_head (RStr.use (c_tcd _ _ (by omega))); walk_at "c_gI") | (o_head (RNamed.use (c_named _ _)); walk_at "c_gI"))) | ((with_reducible show Mid ..); with_reducible ((k_here; exact Mid.intro (by k_asm) (by k_asm)))) | ((with_reducible show MidS ..); with_reducible ((rename Mark => hMark9; refine Hold.out ?_))) | ((with_reducible show InvEnd ..); with_reducible ((rename Mark => hMark9; refine Hold.out ?_))) | ((with_reducible show REnd ..); with_reducible ((rename Mark => hMark9; refine Hold.out ?_))) | ((with_reducible show RPost ..); with_reducible (dsimp only [RPost])) | ((with_reducible show wpAny _ _ (pyIter (.ref _)) _ _ _); with_reducible ((rename Mark => hMark9; refine Hold.out ?_))) | ((with_reducible show wpAny _ _ (call (.type "enumerate") _) _ _ _); with_reducible ((rename Mark => hMark9; refine Hold.out ?_))) | ((with_reducible show wpAny _ _ (exec (.For (.Name ..) (.Call ..) ..) _) _ _ _); with_reducible ((k_here; (rename Fr _ _ _ _ => lF'); (with_unfolding_all refine' For_invVF lF' ?k1 ?k2 ?_; (case k1 => exact rfl); (case k2 => exact rfl); k_whole)))) | ((with_reducible show wpAny _ _ (exec (.For (.Tuple ..) (.Call ..) ..) _) _ _ _); with_reducible ((k_here; (rename Fr _ _ _ _ => lF'); (with_unfolding_all refine' For_turns lF' ?_; k_whole)))) | ((with_reducible show wpAny _ _ (exec (.Assign _ (.ListComp ..) ..) _) _ _ _); with_reducible ((k_here; rename Mark => hMark9; k_dflt (refine LCg.Assign_ListComp_U (F₀ := by k_asm) (by rfl) (by with_unfolding_all rfl) (by with_unfolding_all rfl) (by decide) (by rfl) (by decide) (by rfl) (by rfl) (by rfl) ?_)))) | ((with_reducible show wpAny _ _ (eval (.ListComp ..) _) _ _ _); with_reducible ((k_here; rename Mark => hMark9; k_dflt (refine LCg.ListComp_U (F₀ := by k_asm) (by with_unfolding_all rfl) (by decide) (by rfl) (by decide) (by rfl) ?_)))) | ((with_reducible show LCg.CompEnd ..); with_reducible ((rename Mark => hMark9; refine Hold.out ?_))) | ((with_reducible show LCg.CompSrc ..); with_reducible ((rename Mark => hMark9; refine Hold.out ?_))) | ((with_reducible show LeaveO ..); with_reducible ((k_dflt (refine' LeaveO.intro ?k1 ?k2 ?_; (case k1 => k_asm); (case k2 => k_asm); k_whole; (try dsimp only))))) | walk1 | (dsimp only; walk1) | (leave1; walk_say "STEP leave1"; try dsimp only) | fail "no step"); (all_goals (try k_data)))
    rename IsKey _ => hk9
    rename Pot _ _ _ => hP9
    refine ⟨LCg.CompEnd.intro (by k_asm) (by k_asm) ((_, _) :: _) (fun p h => h) ⟨⟨kI, kC, kD⟩, Off3.of fun p hp => ?_⟩ trivial ⟨?_, ?_, _, hP9, rfl⟩⟩
    · rcases hP9.at p hp with e | e
      · rw [e]; exact ⟨pI, pC, pD⟩
      · rw [e]; exact ⟨cI, cC, cD⟩
    · rw [List.length_append, hlen]; rfl
    · intro v hv
      rcases List.mem_append.mp hv with hv | hv
      · exact hkeys v hv
      · rw [List.mem_singleton.mp hv]; exact hk9
  case fin =>
    rename News _ _ _ _ => N₃
    rename Fr _ _ _ _ => F₃
    clear N₃ F₃ hPot
    rintro ks nw ⟨hlen, hkeys, po', hPo, rfl⟩ D h tk F N o1
    clear o1
    (repeat' (first | (k_unfold; (try dsimp only)) | (k_end; wrow_close) | ((with_reducible show wpAny _ _ (call (.ref _) _) _ _ _); with_reducible (first | (o_head ((RKey.useP (c_key _ _ _ 0 (by assumption)) (by assumption)), ()); walk_at "c_gD") | (o_head ((RDip.useN (c_dip _ _ _ _ _ (by assumption) (by decide) (by decide)) (by assumption)), ()); walk_at "c_gD") | (o_head (RStr.use (c_skdK (by assumption))); walk_at "c_gI") | (o_head (RSame.use (c_readK _ (by assumption))); walk_at "c_gI") | (o_head (RStr.use (c_skdI2 _ _ _ _ (by assumption))); walk_at "c_gI") | (o_head (RStr.use (c_skdB _ (by assumption))); walk_at "c_gI") | (o_head (RVal.use (c_ctldI _ _ _ (by assumption))); walk_at "c_gI") | (o_head (RVal.use (c_ctldS _ _)); walk_at "c_gI") | (o_head (RStr.use (c_tcd _ _ (by omega))); walk_at "c_gI") | (o_head (RNamed.use (c_named _ _)); walk_at "c_gI"))) | ((with_reducible show Mid ..); with_reducible ((k_here; exact Mid.intro (by k_asm) (by k_asm)))) | ((with_reducible show MidS ..); with_reducible ((rename Mark => hMark9; refine Hold.out ?_))) | ((with_reducible show InvEnd ..); with_reducible ((rename Mark => hMark9; refine Hold.out ?_))) | ((with_reducible show REnd ..); with_reducible ((rename Mark => hMark9; refine Hold.out ?_))) | ((with_reducible show RPost ..); with_reducible (dsimp only [RPost])) | ((with_reducible show wpAny _ _ (pyIter (.ref _)) _ _ _); with_reducible ((rename Mark => hMark9; refine Hold.out ?_))) | ((with_reducible show wpAny _ _ (call (.type "enumerate") _) _ _ _); with_reducible ((rename Mark => hMark9; refine Hold.out ?_))) | ((with_reducible show wpAny _ _ (exec (.For (.Name ..) (.Call ..) ..) _) _ _ _); with_reducible ((k_here; (rename Fr _ _ _ _ => lF'); (with_unfolding_all refine' For_invVF lF' ?k1 ?k2 ?_; (case k1 => exact rfl); (case k2 => exact rfl); k_whole)))) | ((with_reducible show wpAny _ _ (exec (.For (.Tuple ..) (.Call ..) ..) _) _ _ _); with_reducible ((k_here; (rename Fr _ _ _ _ => lF'); (with_unfolding_all refine' For_turns lF' ?_; k_whole)))) | ((with_reducible show wpAny _ _ (exec (.Assign _ (.ListComp ..) ..) _) _ _ _); with_reducible ((k_here; rename Mark => hMark9; k_dflt (refine LCg.Assign_ListComp_U (F₀ := by k_asm) (by rfl) (by with_unfolding_all rfl) (by with_unfolding_all rfl) (by decide) (by rfl) (by decide) (by rfl) (by rfl) (by rfl) ?_)))) | ((with_reducible show wpAny _ _ (eval (.ListComp ..) _) _ _ _); with_reducible ((k_here; rename Mark => hMark9; k_dflt (refine LCg.ListComp_U (F₀ := by k_asm) (by with_unfolding_all rfl) (by decide) (by rfl) (by decide) (by rfl) ?_)))) | ((with_reducible show LCg.CompEnd ..); with_reducible ((rename Mark => hMark9; refine Hold.out ?_))) | ((with_reducible show LCg.CompSrc ..); with_reducible ((rename Mark => hMark9; refine Hold.out ?_))) | ((with_reducible show LeaveO ..); with_reducible ((k_dflt (refine' LeaveO.intro ?k1 ?k2 ?_; (case k1 => k_asm); (case k2 => k_asm); k_whole; (try dsimp only))))) | walk1 | (dsimp only; walk1) | (leave1; walk_say "STEP leave1"; try dsimp only) | fail "no step"); (all_goals (try k_data)))
    refine ⟨LCg.CompSrc.ledger (news := (D, lst ks) :: (_, _) :: po') (by rfl) (by k_asm) (by k_asm) (by k_mem) (by rw [PySem.sizeLine_eq, List.size_toArray, hlen]; decide) ?_⟩
    intro g₂
    refine rest_inv (JWd ks _) ?fin ?turn _ 0 _ _ (Nat.zero_add _) ⟨rfl, rfl, fun j v h => absurd h (Nat.not_lt_zero j)⟩
    case turn =>
      clear F N
      rintro i ws nw hi hJ v I oI C9 oC D9 m₂ h tk E' hP hC hx F N off ne
      obtain ⟨rfl, hwl, hJ'⟩ := id hJ
      replace hP : ks[i]? = some v := by simpa using hP
      obtain ⟨txt, hWd⟩ := (hkeys v (List.mem_of_getElem? hP)).wd
      clear hwl hJ' hkeys hPo
      (repeat' (first | (k_unfold; (try dsimp only)) | (k_end; wrow_close) | ((with_reducible show wpAny _ _ (call (.ref _) _) _ _ _); with_reducible (first | (o_head ((RKey.useP (c_key _ _ _ 0 (by assumption)) (by assumption)), ()); walk_at "c_gD") | (o_head ((RDip.useN (c_dip _ _ _ _ _ (by assumption) (by decide) (by decide)) (by assumption)), ()); walk_at "c_gD") | (o_head (RStr.use (c_skdK (by assumption))); walk_at "c_gI") | (o_head (RSame.use (c_readK _ (by assumption))); walk_at "c_gI") | (o_head (RStr.use (c_skdI2 _ _ _ _ (by assumption))); walk_at "c_gI") | (o_head (RStr.use (c_skdB _ (by assumption))); walk_at "c_gI") | (o_head (RVal.use (c_ctldI _ _ _ (by assumption))); walk_at "c_gI") | (o_head (RVal.use (c_ctldS _ _)); walk_at "c_gI") | (o_head (RStr.use (c_tcd _ _ (by omega))); walk_at "c_gI") | (o_head (RNamed.use (c_named _ _)); walk_at "c_gI"))) | ((with_reducible show Mid ..); with_reducible ((k_here; exact Mid.intro (by k_asm) (by k_asm)))) | ((with_reducible show MidS ..); with_reducible ((rename Mark => hMark9; refine Hold.out ?_))) | ((with_reducible show InvEnd ..); with_reducible ((rename Mark => hMark9; refine Hold.out ?_))) | ((with_reducible show REnd ..); with_reducible ((rename Mark => hMark9; refine Hold.out ?_))) | ((with_reducible show RPost ..); with_reducible (dsimp only [RPost])) | ((with_reducible show wpAny _ _ (pyIter (.ref _)) _ _ _); with_reducible ((rename Mark => hMark9; refine Hold.out ?_))) | ((with_reducible show wpAny _ _ (call (.type "enumerate") _) _ _ _); with_reducible ((rename Mark => hMark9; refine Hold.out ?_))) | ((with_reducible show wpAny _ _ (exec (.For (.Name ..) (.Call ..) ..) _) _ _ _); with_reducible ((k_here; (rename Fr _ _ _ _ => lF'); (with_unfolding_all refine' For_invVF lF' ?k1 ?k2 ?_; (case k1 => exact rfl); (case k2 => exact rfl); k_whole)))) | ((with_reducible show wpAny _ _ (exec (.For (.Tuple ..) (.Call ..) ..) _) _ _ _); with_reducible ((k_here; (rename Fr _ _ _ _ => lF'); (with_unfolding_all refine' For_turns lF' ?_; k_whole)))) | ((with_reducible show wpAny _ _ (exec (.Assign _ (.ListComp ..) ..) _) _ _ _); with_reducible ((k_here; rename Mark => hMark9; k_dflt (refine LCg.Assign_ListComp_U (F₀ := by k_asm) (by rfl) (by with_unfolding_all rfl) (by with_unfolding_all rfl) (by decide) (by rfl) (by decide) (by rfl) (by rfl) (by rfl) ?_)))) | ((with_reducible show wpAny _ _ (eval (.ListComp ..) _) _ _ _); with_reducible ((k_here; rename Mark => hMark9; k_dflt (refine LCg.ListComp_U (F₀ := by k_asm) (by with_unfolding_all rfl) (by decide) (by rfl) (by decide) (by rfl) ?_)))) | ((with_reducible show LCg.CompEnd ..); with_reducible ((rename Mark => hMark9; refine Hold.out ?_))) | ((with_reducible show LCg.CompSrc ..); with_reducible ((rename Mark => hMark9; refine Hold.out ?_))) | ((with_reducible show LeaveO ..); with_reducible ((k_dflt (refine' LeaveO.intro ?k1 ?k2 ?_; (case k1 => k_asm); (case k2 => k_asm); k_whole; (try dsimp only))))) | walk1 | (dsimp only; walk1) | (leave1; walk_say "STEP leave1"; try dsimp only) | fail "no step"); (all_goals (try k_data)))
      exact ⟨LCg.CompEnd.intro (by k_asm) (by k_asm) _ (fun p h => h) off (.inr ⟨_, by k_mem, rfl, _, rfl⟩) (hJ.snoc hP hWd)⟩
    case fin =>
      clear F N hkeys
      rintro ws nw ⟨rfl, hwl, hws⟩ Dw h tk F N o1
      clear o1
      replace hwl : ws.length ≤ 1000 := by rw [hwl, List.size_toArray, hlen]; decide
      replace hws : ∀ j v, ks[j]? = some v → ∃ txt t, ws[j]? = some (Value.str (S txt) t) ∧ Wd v txt := fun j v hv => hws j v (by rw [List.size_toArray]; exact (List.getElem?_eq_some_iff.mp hv).1) hv
      (repeat' (first | (k_unfold; (try dsimp only)) | (k_end; wrow_close) | ((with_reducible show wpAny _ _ (call (.ref _) _) _ _ _); with_reducible (first | (o_head ((RKey.useP (c_key _ _ _ 0 (by assumption)) (by assumption)), ()); walk_at "c_gD") | (o_head ((RDip.useN (c_dip _ _ _ _ _ (by assumption) (by decide) (by decide)) (by assumption)), ()); walk_at "c_gD") | (o_head (RStr.use (c_skdK (by assumption))); walk_at "c_gI") | (o_head (RSame.use (c_readK _ (by assumption))); walk_at "c_gI") | (o_head (RStr.use (c_skdI2 _ _ _ _ (by assumption))); walk_at "c_gI") | (o_head (RStr.use (c_skdB _ (by assumption))); walk_at "c_gI") | (o_head (RVal.use (c_ctldI _ _ _ (by assumption))); walk_at "c_gI") | (o_head (RVal.use (c_ctldS _ _)); walk_at "c_gI") | (o_head (RStr.use (c_tcd _ _ (by omega))); walk_at "c_gI") | (o_head (RNamed.use (c_named _ _)); walk_at "c_gI"))) | ((with_reducible show Mid ..); with_reducible ((k_here; exact Mid.intro (by k_asm) (by k_asm)))) | ((with_reducible show MidS ..); with_reducible ((rename Mark => hMark9; refine Hold.out ?_))) | ((with_reducible show InvEnd ..); with_reducible ((rename Mark => hMark9; refine Hold.out ?_))) | ((with_reducible show REnd ..); with_reducible ((rename Mark => hMark9; refine Hold.out ?_))) | ((with_reducible show RPost ..); with_reducible (dsimp only [RPost])) | ((with_reducible show wpAny _ _ (pyIter (.ref _)) _ _ _); with_reducible ((rename Mark => hMark9; refine Hold.out ?_))) | ((with_reducible show wpAny _ _ (call (.type "enumerate") _) _ _ _); with_reducible ((rename Mark => hMark9; refine Hold.out ?_))) | ((with_reducible show wpAny _ _ (exec (.For (.Name ..) (.Call ..) ..) _) _ _ _); with_reducible ((k_here; (rename Fr _ _ _ _ => lF'); (with_unfolding_all refine' For_invVF lF' ?k1 ?k2 ?_; (case k1 => exact rfl); (case k2 => exact rfl); k_whole)))) | ((with_reducible show wpAny _ _ (exec (.For (.Tuple ..) (.Call ..) ..) _) _ _ _); with_reducible ((k_here; (rename Fr _ _ _ _ => lF'); (with_unfolding_all refine' For_turns lF' ?_; k_whole)))) | ((with_reducible show wpAny _ _ (exec (.Assign _ (.ListComp ..) ..) _) _ _ _); with_reducible ((k_here; rename Mark => hMark9; k_dflt (refine LCg.Assign_ListComp_U (F₀ := by k_asm) (by rfl) (by with_unfolding_all rfl) (by with_unfolding_all rfl) (by decide) (by rfl) (by decide) (by rfl) (by rfl) (by rfl) ?_)))) | ((with_reducible show wpAny _ _ (eval (.ListComp ..) _) _ _ _); with_reducible ((k_here; rename Mark => hMark9; k_dflt (refine LCg.ListComp_U (F₀ := by k_asm) (by with_unfolding_all rfl) (by decide) (by rfl) (by decide) (by rfl) ?_)))) | ((with_reducible show LCg.CompEnd ..); with_reducible ((rename Mark => hMark9; refine Hold.out ?_))) | ((with_reducible show LCg.CompSrc ..); with_reducible ((rename Mark => hMark9; refine Hold.out ?_))) | ((with_reducible show LeaveO ..); with_reducible ((k_dflt (refine' LeaveO.intro ?k1 ?k2 ?_; (case k1 => k_asm); (case k2 => k_asm); k_whole; (try dsimp only))))) | walk1 | (dsimp only; walk1) | (leave1; walk_say "STEP leave1"; try dsimp only) | fail "no step"); (all_goals (try k_data)))
      refine ⟨iter_enum (fun _ m => m (Str.ofString "keys") = some (.ref D) ∧ m (Str.ofString "words") = some (.ref Dw)) (by rfl) (by k_asm) (by k_asm) (by k_mem) ⟨by with_unfolding_all rfl, by with_unfolding_all rfl⟩ ?turn ?done⟩
      case turn =>
        rename News _ _ _ _ => N₃
        rename Fr _ _ _ _ => F₃
        clear N₃ F₃ hPo
        rintro i T v u m₁ h tk own hv ⟨e1, e2⟩ F N hTup
        rw [setSelf e1, setSelf e2] at F
        clear e1 e2
        obtain ⟨txt, t1, hw, hWd⟩ := hws i v hv
        repeat' (
          fail_if_success (with_reducible show wpAny _ _ (exec (.If (.Call (.Name (Str.ofString "isinstance") _) _ _ _) _ _ _) _) _ _ _)
          first | (k_unfold; (try dsimp only)) | (k_end; wrow_close) | ((with_reducible show wpAny _ _ (call (.ref _) _) _ _ _); with_reducible (first | (o_head ((RKey.useP (c_key _ _ _ 0 (by assumption)) (by assumption)), ()); walk_at "c_gD") | (o_head ((RDip.useN (c_dip _ _ _ _ _ (by assumption) (by decide) (by decide)) (by assumption)), ()); walk_at "c_gD") | (o_head (RStr.use (c_skdK (by assumption))); walk_at "c_gI") | (o_head (RSame.use (c_readK _ (by assumption))); walk_at "c_gI") | (o_head (RStr.use (c_skdI2 _ _ _ _ (by assumption))); walk_at "c_gI") | (o_head (RStr.use (c_skdB _ (by assumption))); walk_at "c_gI") | (o_head (RVal.use (c_ctldI _ _ _ (by assumption))); walk_at "c_gI") | (o_head (RVal.use (c_ctldS _ _)); walk_at "c_gI") | (o_head (RStr.use (c_tcd _ _ (by omega))); walk_at "c_gI") | (o_head (RNamed.use (c_named _ _)); walk_at "c_gI"))) | ((with_reducible show Mid ..); with_reducible ((k_here; exact Mid.intro (by k_asm) (by k_asm)))) | ((with_reducible show MidS ..); with_reducible ((rename Mark => hMark9; refine Hold.out ?_))) | ((with_reducible show InvEnd ..); with_reducible ((rename Mark => hMark9; refine Hold.out ?_))) | ((with_reducible show REnd ..); with_reducible ((rename Mark => hMark9; refine Hold.out ?_))) | ((with_reducible show RPost ..); with_reducible (dsimp only [RPost])) | ((with_reducible show wpAny _ _ (pyIter (.ref _)) _ _ _); with_reducible ((rename Mark => hMark9; refine Hold.out ?_))) | ((with_reducible show wpAny _ _ (call (.type "enumerate") _) _ _ _); with_reducible ((rename Mark => hMark9; refine Hold.out ?_))) | ((with_reducible show wpAny _ _ (exec (.For (.Name ..) (.Call ..) ..) _) _ _ _); with_reducible ((k_here; (rename Fr _ _ _ _ => lF'); (with_unfolding_all refine' For_invVF lF' ?k1 ?k2 ?_; (case k1 => exact rfl); (case k2 => exact rfl); k_whole)))) | ((with_reducible show wpAny _ _ (exec (.For (.Tuple ..) (.Call ..) ..) _) _ _ _); with_reducible ((k_here; (rename Fr _ _ _ _ => lF'); (with_unfolding_all refine' For_turns lF' ?_; k_whole)))) | ((with_reducible show wpAny _ _ (exec (.Assign _ (.ListComp ..) ..) _) _ _ _); with_reducible ((k_here; rename Mark => hMark9; k_dflt (refine LCg.Assign_ListComp_U (F₀ := by k_asm) (by rfl) (by with_unfolding_all rfl) (by with_unfolding_all rfl) (by decide) (by rfl) (by decide) (by rfl) (by rfl) (by rfl) ?_)))) | ((with_reducible show wpAny _ _ (eval (.ListComp ..) _) _ _ _); with_reducible ((k_here; rename Mark => hMark9; k_dflt (refine LCg.ListComp_U (F₀ := by k_asm) (by with_unfolding_all rfl) (by decide) (by rfl) (by decide) (by rfl) ?_)))) | ((with_reducible show LCg.CompEnd ..); with_reducible ((rename Mark => hMark9; refine Hold.out ?_))) | ((with_reducible show LCg.CompSrc ..); with_reducible ((rename Mark => hMark9; refine Hold.out ?_))) | ((with_reducible show LeaveO ..); with_reducible ((k_dflt (refine' LeaveO.intro ?k1 ?k2 ?_; (case k1 => k_asm); (case k2 => k_asm); k_whole; (try dsimp only))))) | walk1 | (dsimp only; walk1) | (leave1; walk_say "STEP leave1"; try dsimp only))
        refine cutMid (by k_asm) (by k_asm) ?h1 ?h2
        case h1 =>
          clear hTup hws
          rcases hWd with ⟨c, k, t0, rfl, hV, rfl⟩ | ⟨L, nm, t0, rfl, g, rfl⟩
          · have hn := ev_nonneg c k
            have hn2 := ev_lt hV
            have hctl := ctl_ne hV
            have hq := bne_self_eq_false (S (signL c k))
            (repeat' (first | (k_unfold; (try dsimp only)) | (k_end; wrow_close) | ((with_reducible show wpAny _ _ (call (.ref _) _) _ _ _); with_reducible (first | (o_head ((RKey.useP (c_key _ _ _ 0 (by assumption)) (by assumption)), ()); walk_at "c_gD") | (o_head ((RDip.useN (c_dip _ _ _ _ _ (by assumption) (by decide) (by decide)) (by assumption)), ()); walk_at "c_gD") | (o_head (RStr.use (c_skdK (by assumption))); walk_at "c_gI") | (o_head (RSame.use (c_readK _ (by assumption))); walk_at "c_gI") | (o_head (RStr.use (c_skdI2 _ _ _ _ (by assumption))); walk_at "c_gI") | (o_head (RStr.use (c_skdB _ (by assumption))); walk_at "c_gI") | (o_head (RVal.use (c_ctldI _ _ _ (by assumption))); walk_at "c_gI") | (o_head (RVal.use (c_ctldS _ _)); walk_at "c_gI") | (o_head (RStr.use (c_tcd _ _ (by omega))); walk_at "c_gI") | (o_head (RNamed.use (c_named _ _)); walk_at "c_gI"))) | ((with_reducible show Mid ..); with_reducible ((k_here; exact Mid.intro (by k_asm) (by k_asm)))) | ((with_reducible show MidS ..); with_reducible ((rename Mark => hMark9; refine Hold.out ?_))) | ((with_reducible show InvEnd ..); with_reducible ((rename Mark => hMark9; refine Hold.out ?_))) | ((with_reducible show REnd ..); with_reducible ((rename Mark => hMark9; refine Hold.out ?_))) | ((with_reducible show RPost ..); with_reducible (dsimp only [RPost])) | ((with_reducible show wpAny _ _ (pyIter (.ref _)) _ _ _); with_reducible ((rename Mark => hMark9; refine Hold.out ?_))) | ((with_reducible show wpAny _ _ (call (.type "enumerate") _) _ _ _); with_reducible ((rename Mark => hMark9; refine Hold.out ?_))) | ((with_reducible show wpAny _ _ (exec (.For (.Name ..) (.Call ..) ..) _) _ _ _); with_reducible ((k_here; (rename Fr _ _ _ _ => lF'); (with_unfolding_all refine' For_invVF lF' ?k1 ?k2 ?_; (case k1 => exact rfl); (case k2 => exact rfl); k_whole)))) | ((with_reducible show wpAny _ _ (exec (.For (.Tuple ..) (.Call ..) ..) _) _ _ _); with_reducible ((k_here; (rename Fr _ _ _ _ => lF'); (with_unfolding_all refine' For_turns lF' ?_; k_whole)))) | ((with_reducible show wpAny _ _ (exec (.Assign _ (.ListComp ..) ..) _) _ _ _); with_reducible ((k_here; rename Mark => hMark9; k_dflt (refine LCg.Assign_ListComp_U (F₀ := by k_asm) (by rfl) (by with_unfolding_all rfl) (by with_unfolding_all rfl) (by decide) (by rfl) (by decide) (by rfl) (by rfl) (by rfl) ?_)))) | ((with_reducible show wpAny _ _ (eval (.ListComp ..) _) _ _ _); with_reducible ((k_here; rename Mark => hMark9; k_dflt (refine LCg.ListComp_U (F₀ := by k_asm) (by with_unfolding_all rfl) (by decide) (by rfl) (by decide) (by rfl) ?_)))) | ((with_reducible show LCg.CompEnd ..); with_reducible ((rename Mark => hMark9; refine Hold.out ?_))) | ((with_reducible show LCg.CompSrc ..); with_reducible ((rename Mark => hMark9; refine Hold.out ?_))) | ((with_reducible show LeaveO ..); with_reducible ((k_dflt (refine' LeaveO.intro ?k1 ?k2 ?_; (case k1 => k_asm); (case k2 => k_asm); k_whole; (try dsimp only))))) | walk1 | (dsimp only; walk1) | (leave1; walk_say "STEP leave1"; try dsimp only) | fail "no step"); (all_goals (try k_data)))
            all_goals (rename (_ != _) = true => hx9; first | exact Bool.noConfusion (hq.symm.trans hx9) | exact Bool.noConfusion (hctl.symm.trans hx9))
          · have hq := bne_self_eq_false (S (ltx (ordL L) ++ nm))
            (repeat' (first | (k_unfold; (try dsimp only)) | (k_end; wrow_close) | ((with_reducible show wpAny _ _ (call (.ref _) _) _ _ _); with_reducible (first | (o_head ((RKey.useP (c_key _ _ _ 0 (by assumption)) (by assumption)), ()); walk_at "c_gD") | (o_head ((RDip.useN (c_dip _ _ _ _ _ (by assumption) (by decide) (by decide)) (by assumption)), ()); walk_at "c_gD") | (o_head (RStr.use (c_skdK (by assumption))); walk_at "c_gI") | (o_head (RSame.use (c_readK _ (by assumption))); walk_at "c_gI") | (o_head (RStr.use (c_skdI2 _ _ _ _ (by assumption))); walk_at "c_gI") | (o_head (RStr.use (c_skdB _ (by assumption))); walk_at "c_gI") | (o_head (RVal.use (c_ctldI _ _ _ (by assumption))); walk_at "c_gI") | (o_head (RVal.use (c_ctldS _ _)); walk_at "c_gI") | (o_head (RStr.use (c_tcd _ _ (by omega))); walk_at "c_gI") | (o_head (RNamed.use (c_named _ _)); walk_at "c_gI"))) | ((with_reducible show Mid ..); with_reducible ((k_here; exact Mid.intro (by k_asm) (by k_asm)))) | ((with_reducible show MidS ..); with_reducible ((rename Mark => hMark9; refine Hold.out ?_))) | ((with_reducible show InvEnd ..); with_reducible ((rename Mark => hMark9; refine Hold.out ?_))) | ((with_reducible show REnd ..); with_reducible ((rename Mark => hMark9; refine Hold.out ?_))) | ((with_reducible show RPost ..); with_reducible (dsimp only [RPost])) | ((with_reducible show wpAny _ _ (pyIter (.ref _)) _ _ _); with_reducible ((rename Mark => hMark9; refine Hold.out ?_))) | ((with_reducible show wpAny _ _ (call (.type "enumerate") _) _ _ _); with_reducible ((rename Mark => hMark9; refine Hold.out ?_))) | ((with_reducible show wpAny _ _ (exec (.For (.Name ..) (.Call ..) ..) _) _ _ _); with_reducible ((k_here; (rename Fr _ _ _ _ => lF'); (with_unfolding_all refine' For_invVF lF' ?k1 ?k2 ?_; (case k1 => exact rfl); (case k2 => exact rfl); k_whole)))) | ((with_reducible show wpAny _ _ (exec (.For (.Tuple ..) (.Call ..) ..) _) _ _ _); with_reducible ((k_here; (rename Fr _ _ _ _ => lF'); (with_unfolding_all refine' For_turns lF' ?_; k_whole)))) | ((with_reducible show wpAny _ _ (exec (.Assign _ (.ListComp ..) ..) _) _ _ _); with_reducible ((k_here; rename Mark => hMark9; k_dflt (refine LCg.Assign_ListComp_U (F₀ := by k_asm) (by rfl) (by with_unfolding_all rfl) (by with_unfolding_all rfl) (by decide) (by rfl) (by decide) (by rfl) (by rfl) (by rfl) ?_)))) | ((with_reducible show wpAny _ _ (eval (.ListComp ..) _) _ _ _); with_reducible ((k_here; rename Mark => hMark9; k_dflt (refine LCg.ListComp_U (F₀ := by k_asm) (by with_unfolding_all rfl) (by decide) (by rfl) (by decide) (by rfl) ?_)))) | ((with_reducible show LCg.CompEnd ..); with_reducible ((rename Mark => hMark9; refine Hold.out ?_))) | ((with_reducible show LCg.CompSrc ..); with_reducible ((rename Mark => hMark9; refine Hold.out ?_))) | ((with_reducible show LeaveO ..); with_reducible ((k_dflt (refine' LeaveO.intro ?k1 ?k2 ?_; (case k1 => k_asm); (case k2 => k_asm); k_whole; (try dsimp only))))) | walk1 | (dsimp only; walk1) | (leave1; walk_say "STEP leave1"; try dsimp only) | fail "no step"); (all_goals (try k_data)))
            all_goals (rename (_ != _) = true => hx9; exact Bool.noConfusion (hq.symm.trans hx9))
        case h2 =>
          rename News _ _ _ _ => N₃
          rename Fr _ _ _ _ => F₃
          clear N₃ F₃ hTup
          intro h tk F N
          (repeat' (first | (k_unfold; (try dsimp only)) | (k_end; wrow_close) | ((with_reducible show wpAny _ _ (call (.ref _) _) _ _ _); with_reducible (first | (o_head ((RKey.useP (c_key _ _ _ 0 (by assumption)) (by assumption)), ()); walk_at "c_gD") | (o_head ((RDip.useN (c_dip _ _ _ _ _ (by assumption) (by decide) (by decide)) (by assumption)), ()); walk_at "c_gD") | (o_head (RStr.use (c_skdK (by assumption))); walk_at "c_gI") | (o_head (RSame.use (c_readK _ (by assumption))); walk_at "c_gI") | (o_head (RStr.use (c_skdI2 _ _ _ _ (by assumption))); walk_at "c_gI") | (o_head (RStr.use (c_skdB _ (by assumption))); walk_at "c_gI") | (o_head (RVal.use (c_ctldI _ _ _ (by assumption))); walk_at "c_gI") | (o_head (RVal.use (c_ctldS _ _)); walk_at "c_gI") | (o_head (RStr.use (c_tcd _ _ (by omega))); walk_at "c_gI") | (o_head (RNamed.use (c_named _ _)); walk_at "c_gI"))) | ((with_reducible show Mid ..); with_reducible ((k_here; exact Mid.intro (by k_asm) (by k_asm)))) | ((with_reducible show MidS ..); with_reducible ((rename Mark => hMark9; refine Hold.out ?_))) | ((with_reducible show InvEnd ..); with_reducible ((rename Mark => hMark9; refine Hold.out ?_))) | ((with_reducible show REnd ..); with_reducible ((rename Mark => hMark9; refine Hold.out ?_))) | ((with_reducible show RPost ..); with_reducible (dsimp only [RPost])) | ((with_reducible show wpAny _ _ (pyIter (.ref _)) _ _ _); with_reducible ((rename Mark => hMark9; refine Hold.out ?_))) | ((with_reducible show wpAny _ _ (call (.type "enumerate") _) _ _ _); with_reducible ((rename Mark => hMark9; refine Hold.out ?_))) | ((with_reducible show wpAny _ _ (exec (.For (.Name ..) (.Call ..) ..) _) _ _ _); with_reducible ((k_here; (rename Fr _ _ _ _ => lF'); (with_unfolding_all refine' For_invVF lF' ?k1 ?k2 ?_; (case k1 => exact rfl); (case k2 => exact rfl); k_whole)))) | ((with_reducible show wpAny _ _ (exec (.For (.Tuple ..) (.Call ..) ..) _) _ _ _); with_reducible ((k_here; (rename Fr _ _ _ _ => lF'); (with_unfolding_all refine' For_turns lF' ?_; k_whole)))) | ((with_reducible show wpAny _ _ (exec (.Assign _ (.ListComp ..) ..) _) _ _ _); with_reducible ((k_here; rename Mark => hMark9; k_dflt (refine LCg.Assign_ListComp_U (F₀ := by k_asm) (by rfl) (by with_unfolding_all rfl) (by with_unfolding_all rfl) (by decide) (by rfl) (by decide) (by rfl) (by rfl) (by rfl) ?_)))) | ((with_reducible show wpAny _ _ (eval (.ListComp ..) _) _ _ _); with_reducible ((k_here; rename Mark => hMark9; k_dflt (refine LCg.ListComp_U (F₀ := by k_asm) (by with_unfolding_all rfl) (by decide) (by rfl) (by decide) (by rfl) ?_)))) | ((with_reducible show LCg.CompEnd ..); with_reducible ((rename Mark => hMark9; refine Hold.out ?_))) | ((with_reducible show LCg.CompSrc ..); with_reducible ((rename Mark => hMark9; refine Hold.out ?_))) | ((with_reducible show LeaveO ..); with_reducible ((k_dflt (refine' LeaveO.intro ?k1 ?k2 ?_; (case k1 => k_asm); (case k2 => k_asm); k_whole; (try dsimp only))))) | walk1 | (dsimp only; walk1) | (leave1; walk_say "STEP leave1"; try dsimp only) | fail "no step"); (all_goals (try k_data)))
          refine ⟨iter_rangeF (n := 8) (fun _ m => m (Str.ofString "keys") = some (.ref D) ∧ m (Str.ofString "words") = some (.ref Dw) ∧ m (Str.ofString "place") = some (.int (i : Int) u) ∧ m (Str.ofString "key") = some v)
            (by rfl) (by assumption) (by decide) (by first | exact rangeSize_nat _ _ | rfl) (by k_asm) (by k_asm) ⟨by with_unfolding_all rfl, by with_unfolding_all rfl, by with_unfolding_all rfl, by with_unfolding_all rfl⟩ ?turn2 ?done2⟩
          case turn2 =>
            rename News _ _ _ _ => N₃
            rename Fr _ _ _ _ => F₃
            clear N₃ F₃
            rintro j t' m₁ h tk own' hj ⟨e1, e2, e3, e4⟩ F N
            rw [Int.zero_add, setSelf e1, setSelf e2, setSelf e3, setSelf e4] at F
            clear e1 e2 e3 e4
            obtain ⟨v2, hv2⟩ : ∃ v2, ks[j]? = some v2 := ⟨_, List.getElem?_eq_getElem (by omega)⟩
            obtain ⟨txt2, t2, hw2, hWd2⟩ := hws j v2 hv2
            have hq := bne_self_eq_false (S txt == S txt2)
            clear hws
            (repeat' (first | (k_unfold; (try dsimp only)) | (k_end; wrow_close) | ((with_reducible show wpAny _ _ (call (.ref _) _) _ _ _); with_reducible (first | (o_head ((RKey.useP (c_key _ _ _ 0 (by assumption)) (by assumption)), ()); walk_at "c_gD") | (o_head ((RDip.useN (c_dip _ _ _ _ _ (by assumption) (by decide) (by decide)) (by assumption)), ()); walk_at "c_gD") | (o_head (RStr.use (c_skdK (by assumption))); walk_at "c_gI") | (o_head (RSame.use (c_readK _ (by assumption))); walk_at "c_gI") | (o_head (RStr.use (c_skdI2 _ _ _ _ (by assumption))); walk_at "c_gI") | (o_head (RStr.use (c_skdB _ (by assumption))); walk_at "c_gI") | (o_head (RVal.use (c_ctldI _ _ _ (by assumption))); walk_at "c_gI") | (o_head (RVal.use (c_ctldS _ _)); walk_at "c_gI") | (o_head (RStr.use (c_tcd _ _ (by omega))); walk_at "c_gI") | (o_head (RNamed.use (c_named _ _)); walk_at "c_gI"))) | ((with_reducible show Mid ..); with_reducible ((k_here; exact Mid.intro (by k_asm) (by k_asm)))) | ((with_reducible show MidS ..); with_reducible ((rename Mark => hMark9; refine Hold.out ?_))) | ((with_reducible show InvEnd ..); with_reducible ((rename Mark => hMark9; refine Hold.out ?_))) | ((with_reducible show REnd ..); with_reducible ((rename Mark => hMark9; refine Hold.out ?_))) | ((with_reducible show RPost ..); with_reducible (dsimp only [RPost])) | ((with_reducible show wpAny _ _ (pyIter (.ref _)) _ _ _); with_reducible ((rename Mark => hMark9; refine Hold.out ?_))) | ((with_reducible show wpAny _ _ (call (.type "enumerate") _) _ _ _); with_reducible ((rename Mark => hMark9; refine Hold.out ?_))) | ((with_reducible show wpAny _ _ (exec (.For (.Name ..) (.Call ..) ..) _) _ _ _); with_reducible ((k_here; (rename Fr _ _ _ _ => lF'); (with_unfolding_all refine' For_invVF lF' ?k1 ?k2 ?_; (case k1 => exact rfl); (case k2 => exact rfl); k_whole)))) | ((with_reducible show wpAny _ _ (exec (.For (.Tuple ..) (.Call ..) ..) _) _ _ _); with_reducible ((k_here; (rename Fr _ _ _ _ => lF'); (with_unfolding_all refine' For_turns lF' ?_; k_whole)))) | ((with_reducible show wpAny _ _ (exec (.Assign _ (.ListComp ..) ..) _) _ _ _); with_reducible ((k_here; rename Mark => hMark9; k_dflt (refine LCg.Assign_ListComp_U (F₀ := by k_asm) (by rfl) (by with_unfolding_all rfl) (by with_unfolding_all rfl) (by decide) (by rfl) (by decide) (by rfl) (by rfl) (by rfl) ?_)))) | ((with_reducible show wpAny _ _ (eval (.ListComp ..) _) _ _ _); with_reducible ((k_here; rename Mark => hMark9; k_dflt (refine LCg.ListComp_U (F₀ := by k_asm) (by with_unfolding_all rfl) (by decide) (by rfl) (by decide) (by rfl) ?_)))) | ((with_reducible show LCg.CompEnd ..); with_reducible ((rename Mark => hMark9; refine Hold.out ?_))) | ((with_reducible show LCg.CompSrc ..); with_reducible ((rename Mark => hMark9; refine Hold.out ?_))) | ((with_reducible show LeaveO ..); with_reducible ((k_dflt (refine' LeaveO.intro ?k1 ?k2 ?_; (case k1 => k_asm); (case k2 => k_asm); k_whole; (try dsimp only))))) | walk1 | (dsimp only; walk1) | (leave1; walk_say "STEP leave1"; try dsimp only) | fail "no step"); (all_goals (try k_data)))
            exact ⟨InvEnd.intro (by k_asm) (by k_asm) (fun p h => h) ⟨by with_unfolding_all rfl, by with_unfolding_all rfl, by with_unfolding_all rfl, by with_unfolding_all rfl⟩⟩
          case done2 =>
            rename News _ _ _ _ => N₃
            rename Fr _ _ _ _ => F₃
            clear N₃ F₃
            rintro m₁ h tk ⟨e1, e2, e3, e4⟩ F N
            (repeat' (first | (k_unfold; (try dsimp only)) | (k_end; wrow_close) | ((with_reducible show wpAny _ _ (call (.ref _) _) _ _ _); with_reducible (first | (o_head ((RKey.useP (c_key _ _ _ 0 (by assumption)) (by assumption)), ()); walk_at "c_gD") | (o_head ((RDip.useN (c_dip _ _ _ _ _ (by assumption) (by decide) (by decide)) (by assumption)), ()); walk_at "c_gD") | (o_head (RStr.use (c_skdK (by assumption))); walk_at "c_gI") | (o_head (RSame.use (c_readK _ (by assumption))); walk_at "c_gI") | (o_head (RStr.use (c_skdI2 _ _ _ _ (by assumption))); walk_at "c_gI") | (o_head (RStr.use (c_skdB _ (by assumption))); walk_at "c_gI") | (o_head (RVal.use (c_ctldI _ _ _ (by assumption))); walk_at "c_gI") | (o_head (RVal.use (c_ctldS _ _)); walk_at "c_gI") | (o_head (RStr.use (c_tcd _ _ (by omega))); walk_at "c_gI") | (o_head (RNamed.use (c_named _ _)); walk_at "c_gI"))) | ((with_reducible show Mid ..); with_reducible ((k_here; exact Mid.intro (by k_asm) (by k_asm)))) | ((with_reducible show MidS ..); with_reducible ((rename Mark => hMark9; refine Hold.out ?_))) | ((with_reducible show InvEnd ..); with_reducible ((rename Mark => hMark9; refine Hold.out ?_))) | ((with_reducible show REnd ..); with_reducible ((rename Mark => hMark9; refine Hold.out ?_))) | ((with_reducible show RPost ..); with_reducible (dsimp only [RPost])) | ((with_reducible show wpAny _ _ (pyIter (.ref _)) _ _ _); with_reducible ((rename Mark => hMark9; refine Hold.out ?_))) | ((with_reducible show wpAny _ _ (call (.type "enumerate") _) _ _ _); with_reducible ((rename Mark => hMark9; refine Hold.out ?_))) | ((with_reducible show wpAny _ _ (exec (.For (.Name ..) (.Call ..) ..) _) _ _ _); with_reducible ((k_here; (rename Fr _ _ _ _ => lF'); (with_unfolding_all refine' For_invVF lF' ?k1 ?k2 ?_; (case k1 => exact rfl); (case k2 => exact rfl); k_whole)))) | ((with_reducible show wpAny _ _ (exec (.For (.Tuple ..) (.Call ..) ..) _) _ _ _); with_reducible ((k_here; (rename Fr _ _ _ _ => lF'); (with_unfolding_all refine' For_turns lF' ?_; k_whole)))) | ((with_reducible show wpAny _ _ (exec (.Assign _ (.ListComp ..) ..) _) _ _ _); with_reducible ((k_here; rename Mark => hMark9; k_dflt (refine LCg.Assign_ListComp_U (F₀ := by k_asm) (by rfl) (by with_unfolding_all rfl) (by with_unfolding_all rfl) (by decide) (by rfl) (by decide) (by rfl) (by rfl) (by rfl) ?_)))) | ((with_reducible show wpAny _ _ (eval (.ListComp ..) _) _ _ _); with_reducible ((k_here; rename Mark => hMark9; k_dflt (refine LCg.ListComp_U (F₀ := by k_asm) (by with_unfolding_all rfl) (by decide) (by rfl) (by decide) (by rfl) ?_)))) | ((with_reducible show LCg.CompEnd ..); with_reducible ((rename Mark => hMark9; refine Hold.out ?_))) | ((with_reducible show LCg.CompSrc ..); with_reducible ((rename Mark => hMark9; refine Hold.out ?_))) | ((with_reducible show LeaveO ..); with_reducible ((k_dflt (refine' LeaveO.intro ?k1 ?k2 ?_; (case k1 => k_asm); (case k2 => k_asm); k_whole; (try dsimp only))))) | walk1 | (dsimp only; walk1) | (leave1; walk_say "STEP leave1"; try dsimp only) | fail "no step"); (all_goals (try k_data)))
            exact ⟨InvEnd.intro (by k_asm) (by k_asm) (fun p h => h) ⟨e1, e2⟩⟩
      case done =>
        rename News _ _ _ _ => N₃
        rename Fr _ _ _ _ => F₃
        clear N₃ F₃ hws hwl hlen
        rintro m₁ h tk ⟨e1, e2⟩ F N
        clear e1 e2
        replace N := News.right (a := [(Dw, lst ws), (D, lst ks)]) N
        (repeat' (first | (k_unfold; (try dsimp only)) | (k_end; wrow_close) | ((with_reducible show wpAny _ _ (call (.ref _) _) _ _ _); with_reducible (first | (o_head ((RKey.useP (c_key _ _ _ 0 (by assumption)) (by assumption)), ()); walk_at "c_gD") | (o_head ((RDip.useN (c_dip _ _ _ _ _ (by assumption) (by decide) (by decide)) (by assumption)), ()); walk_at "c_gD") | (o_head (RStr.use (c_skdK (by assumption))); walk_at "c_gI") | (o_head (RSame.use (c_readK _ (by assumption))); walk_at "c_gI") | (o_head (RStr.use (c_skdI2 _ _ _ _ (by assumption))); walk_at "c_gI") | (o_head (RStr.use (c_skdB _ (by assumption))); walk_at "c_gI") | (o_head (RVal.use (c_ctldI _ _ _ (by assumption))); walk_at "c_gI") | (o_head (RVal.use (c_ctldS _ _)); walk_at "c_gI") | (o_head (RStr.use (c_tcd _ _ (by omega))); walk_at "c_gI") | (o_head (RNamed.use (c_named _ _)); walk_at "c_gI"))) | ((with_reducible show Mid ..); with_reducible ((k_here; exact Mid.intro (by k_asm) (by k_asm)))) | ((with_reducible show MidS ..); with_reducible ((rename Mark => hMark9; refine Hold.out ?_))) | ((with_reducible show InvEnd ..); with_reducible ((rename Mark => hMark9; refine Hold.out ?_))) | ((with_reducible show REnd ..); with_reducible ((rename Mark => hMark9; refine Hold.out ?_))) | ((with_reducible show RPost ..); with_reducible (dsimp only [RPost])) | ((with_reducible show wpAny _ _ (pyIter (.ref _)) _ _ _); with_reducible ((rename Mark => hMark9; refine Hold.out ?_))) | ((with_reducible show wpAny _ _ (call (.type "enumerate") _) _ _ _); with_reducible ((rename Mark => hMark9; refine Hold.out ?_))) | ((with_reducible show wpAny _ _ (exec (.For (.Name ..) (.Call ..) ..) _) _ _ _); with_reducible ((k_here; (rename Fr _ _ _ _ => lF'); (with_unfolding_all refine' For_invVF lF' ?k1 ?k2 ?_; (case k1 => exact rfl); (case k2 => exact rfl); k_whole)))) | ((with_reducible show wpAny _ _ (exec (.For (.Tuple ..) (.Call ..) ..) _) _ _ _); with_reducible ((k_here; (rename Fr _ _ _ _ => lF'); (with_unfolding_all refine' For_turns lF' ?_; k_whole)))) | ((with_reducible show wpAny _ _ (exec (.Assign _ (.ListComp ..) ..) _) _ _ _); with_reducible ((k_here; rename Mark => hMark9; k_dflt (refine LCg.Assign_ListComp_U (F₀ := by k_asm) (by rfl) (by with_unfolding_all rfl) (by with_unfolding_all rfl) (by decide) (by rfl) (by decide) (by rfl) (by rfl) (by rfl) ?_)))) | ((with_reducible show wpAny _ _ (eval (.ListComp ..) _) _ _ _); with_reducible ((k_here; rename Mark => hMark9; k_dflt (refine LCg.ListComp_U (F₀ := by k_asm) (by with_unfolding_all rfl) (by decide) (by rfl) (by decide) (by rfl) ?_)))) | ((with_reducible show LCg.CompEnd ..); with_reducible ((rename Mark => hMark9; refine Hold.out ?_))) | ((with_reducible show LCg.CompSrc ..); with_reducible ((rename Mark => hMark9; refine Hold.out ?_))) | ((with_reducible show LeaveO ..); with_reducible ((k_dflt (refine' LeaveO.intro ?k1 ?k2 ?_; (case k1 => k_asm); (case k2 => k_asm); k_whole; (try dsimp only))))) | walk1 | (dsimp only; walk1) | (leave1; walk_say "STEP leave1"; try dsimp only) | fail "no step"); (all_goals (try k_data)))
        refine ⟨iter_rangeP (n := 4) (JS _ _ _ _) (by rfl) (by assumption) (by decide) (by first | exact rangeSize_nat _ _ | rfl) (by k_asm) (by k_asm) ⟨po', by assumption, rfl⟩ ?turn4 ?done4⟩
        case turn4 =>
          rename News _ _ _ _ => N₃
          rename Fr _ _ _ _ => F₃
          clear N₃ F₃ hPo
          rintro i t' m₁ nw h tk own I hi ⟨po2, hP2, rfl⟩ hown hoff F N
          obtain ⟨⟨oP, hPm⟩, oC2, hCm⟩ := hP2.has
          have pI := hoff _ (List.mem_cons_of_mem _ hPm)
          have cI := hoff _ (List.mem_cons_of_mem _ hCm)
          have kI := hoff _ List.mem_cons_self
          dsimp only at pI cI kI
          have ho := Off2.of (l := own) fun p hp => ⟨fun e => pI (e.symm.trans (hown p hp)), fun e => cI (e.symm.trans (hown p hp))⟩
          replace N := newsMid N
          clear hoff hPm hCm hown
          have hKP := neN hPK.symm
          have hKC := neN hCK.symm
          repeat' (
            fail_if_success (with_reducible show wpAny _ _ (exec (.Assign _ (.IfExp _ _ _ _) _) _) _ _ _)
            first | (k_unfold; (try dsimp only)) | (k_end; wrow_close) | ((with_reducible show wpAny _ _ (call (.ref _) _) _ _ _); with_reducible (first | (o_head ((RKey.useP (c_key _ _ _ 0 (by assumption)) (by assumption)), ()); walk_at "c_gD") | (o_head ((RDip.useN (c_dip _ _ _ _ _ (by assumption) (by decide) (by decide)) (by assumption)), ()); walk_at "c_gD") | (o_head (RStr.use (c_skdK (by assumption))); walk_at "c_gI") | (o_head (RSame.use (c_readK _ (by assumption))); walk_at "c_gI") | (o_head (RStr.use (c_skdI2 _ _ _ _ (by assumption))); walk_at "c_gI") | (o_head (RStr.use (c_skdB _ (by assumption))); walk_at "c_gI") | (o_head (RVal.use (c_ctldI _ _ _ (by assumption))); walk_at "c_gI") | (o_head (RVal.use (c_ctldS _ _)); walk_at "c_gI") | (o_head (RStr.use (c_tcd _ _ (by omega))); walk_at "c_gI") | (o_head (RNamed.use (c_named _ _)); walk_at "c_gI"))) | ((with_reducible show Mid ..); with_reducible ((k_here; exact Mid.intro (by k_asm) (by k_asm)))) | ((with_reducible show MidS ..); with_reducible ((rename Mark => hMark9; refine Hold.out ?_))) | ((with_reducible show InvEnd ..); with_reducible ((rename Mark => hMark9; refine Hold.out ?_))) | ((with_reducible show REnd ..); with_reducible ((rename Mark => hMark9; refine Hold.out ?_))) | ((with_reducible show RPost ..); with_reducible (dsimp only [RPost])) | ((with_reducible show wpAny _ _ (pyIter (.ref _)) _ _ _); with_reducible ((rename Mark => hMark9; refine Hold.out ?_))) | ((with_reducible show wpAny _ _ (call (.type "enumerate") _) _ _ _); with_reducible ((rename Mark => hMark9; refine Hold.out ?_))) | ((with_reducible show wpAny _ _ (exec (.For (.Name ..) (.Call ..) ..) _) _ _ _); with_reducible ((k_here; (rename Fr _ _ _ _ => lF'); (with_unfolding_all refine' For_invVF lF' ?k1 ?k2 ?_; (case k1 => exact rfl); (case k2 => exact rfl); k_whole)))) | ((with_reducible show wpAny _ _ (exec (.For (.Tuple ..) (.Call ..) ..) _) _ _ _); with_reducible ((k_here; (rename Fr _ _ _ _ => lF'); (with_unfolding_all refine' For_turns lF' ?_; k_whole)))) | ((with_reducible show wpAny _ _ (exec (.Assign _ (.ListComp ..) ..) _) _ _ _); with_reducible ((k_here; rename Mark => hMark9; k_dflt (refine LCg.Assign_ListComp_U (F₀ := by k_asm) (by rfl) (by with_unfolding_all rfl) (by with_unfolding_all rfl) (by decide) (by rfl) (by decide) (by rfl) (by rfl) (by rfl) ?_)))) | ((with_reducible show wpAny _ _ (eval (.ListComp ..) _) _ _ _); with_reducible ((k_here; rename Mark => hMark9; k_dflt (refine LCg.ListComp_U (F₀ := by k_asm) (by with_unfolding_all rfl) (by decide) (by rfl) (by decide) (by rfl) ?_)))) | ((with_reducible show LCg.CompEnd ..); with_reducible ((rename Mark => hMark9; refine Hold.out ?_))) | ((with_reducible show LCg.CompSrc ..); with_reducible ((rename Mark => hMark9; refine Hold.out ?_))) | ((with_reducible show LeaveO ..); with_reducible ((k_dflt (refine' LeaveO.intro ?k1 ?k2 ?_; (case k1 => k_asm); (case k2 => k_asm); k_whole; (try dsimp only))))) | walk1 | (dsimp only; walk1) | (leave1; walk_say "STEP leave1"; try dsimp only))
          rename Pot _ _ _ => hP9
          rename (_ : Int) < 160 => hc9
          clear ho
          refine cutDue hc9 (by k_asm) (by k_asm) ?h3 ?h4
          case h3 =>
            (repeat' (first | (k_unfold; (try dsimp only)) | (k_end; wrow_close) | ((with_reducible show wpAny _ _ (call (.ref _) _) _ _ _); with_reducible (first | (o_head ((RKey.useP (c_key _ _ _ 0 (by assumption)) (by assumption)), ()); walk_at "c_gD") | (o_head ((RDip.useN (c_dip _ _ _ _ _ (by assumption) (by decide) (by decide)) (by assumption)), ()); walk_at "c_gD") | (o_head (RStr.use (c_skdK (by assumption))); walk_at "c_gI") | (o_head (RSame.use (c_readK _ (by assumption))); walk_at "c_gI") | (o_head (RStr.use (c_skdI2 _ _ _ _ (by assumption))); walk_at "c_gI") | (o_head (RStr.use (c_skdB _ (by assumption))); walk_at "c_gI") | (o_head (RVal.use (c_ctldI _ _ _ (by assumption))); walk_at "c_gI") | (o_head (RVal.use (c_ctldS _ _)); walk_at "c_gI") | (o_head (RStr.use (c_tcd _ _ (by omega))); walk_at "c_gI") | (o_head (RNamed.use (c_named _ _)); walk_at "c_gI"))) | ((with_reducible show Mid ..); with_reducible ((k_here; exact Mid.intro (by k_asm) (by k_asm)))) | ((with_reducible show MidS ..); with_reducible ((rename Mark => hMark9; refine Hold.out ?_))) | ((with_reducible show InvEnd ..); with_reducible ((rename Mark => hMark9; refine Hold.out ?_))) | ((with_reducible show REnd ..); with_reducible ((rename Mark => hMark9; refine Hold.out ?_))) | ((with_reducible show RPost ..); with_reducible (dsimp only [RPost])) | ((with_reducible show wpAny _ _ (pyIter (.ref _)) _ _ _); with_reducible ((rename Mark => hMark9; refine Hold.out ?_))) | ((with_reducible show wpAny _ _ (call (.type "enumerate") _) _ _ _); with_reducible ((rename Mark => hMark9; refine Hold.out ?_))) | ((with_reducible show wpAny _ _ (exec (.For (.Name ..) (.Call ..) ..) _) _ _ _); with_reducible ((k_here; (rename Fr _ _ _ _ => lF'); (with_unfolding_all refine' For_invVF lF' ?k1 ?k2 ?_; (case k1 => exact rfl); (case k2 => exact rfl); k_whole)))) | ((with_reducible show wpAny _ _ (exec (.For (.Tuple ..) (.Call ..) ..) _) _ _ _); with_reducible ((k_here; (rename Fr _ _ _ _ => lF'); (with_unfolding_all refine' For_turns lF' ?_; k_whole)))) | ((with_reducible show wpAny _ _ (exec (.Assign _ (.ListComp ..) ..) _) _ _ _); with_reducible ((k_here; rename Mark => hMark9; k_dflt (refine LCg.Assign_ListComp_U (F₀ := by k_asm) (by rfl) (by with_unfolding_all rfl) (by with_unfolding_all rfl) (by decide) (by rfl) (by decide) (by rfl) (by rfl) (by rfl) ?_)))) | ((with_reducible show wpAny _ _ (eval (.ListComp ..) _) _ _ _); with_reducible ((k_here; rename Mark => hMark9; k_dflt (refine LCg.ListComp_U (F₀ := by k_asm) (by with_unfolding_all rfl) (by decide) (by rfl) (by decide) (by rfl) ?_)))) | ((with_reducible show LCg.CompEnd ..); with_reducible ((rename Mark => hMark9; refine Hold.out ?_))) | ((with_reducible show LCg.CompSrc ..); with_reducible ((rename Mark => hMark9; refine Hold.out ?_))) | ((with_reducible show LeaveO ..); with_reducible ((k_dflt (refine' LeaveO.intro ?k1 ?k2 ?_; (case k1 => k_asm); (case k2 => k_asm); k_whole; (try dsimp only))))) | walk1 | (dsimp only; walk1) | (leave1; walk_say "STEP leave1"; try dsimp only) | fail "no step"); (all_goals (try k_data)))
            all_goals first
              | exact ⟨MidS.intro (tcd_a (by assumption) (by assumption)) (by k_asm) (by k_asm)⟩
              | exact ⟨MidS.intro (tcd_b (by assumption)) (by k_asm) (by k_asm)⟩
              | exact ⟨MidS.intro (tcd_c (by assumption)) (by k_asm) (by k_asm)⟩
              | (rename (_ : Int) = 127 => hA; rename (_ : Int) ≠ 127 => hB; exact absurd hA hB)
          case h4 =>
            rename News _ _ _ _ => N₃
            rename Fr _ _ _ _ => F₃
            clear N₃ F₃
            intro h tk t hq F N
            (repeat' (first | (k_unfold; (try dsimp only)) | (k_end; wrow_close) | ((with_reducible show wpAny _ _ (call (.ref _) _) _ _ _); with_reducible (first | (o_head ((RKey.useP (c_key _ _ _ 0 (by assumption)) (by assumption)), ()); walk_at "c_gD") | (o_head ((RDip.useN (c_dip _ _ _ _ _ (by assumption) (by decide) (by decide)) (by assumption)), ()); walk_at "c_gD") | (o_head (RStr.use (c_skdK (by assumption))); walk_at "c_gI") | (o_head (RSame.use (c_readK _ (by assumption))); walk_at "c_gI") | (o_head (RStr.use (c_skdI2 _ _ _ _ (by assumption))); walk_at "c_gI") | (o_head (RStr.use (c_skdB _ (by assumption))); walk_at "c_gI") | (o_head (RVal.use (c_ctldI _ _ _ (by assumption))); walk_at "c_gI") | (o_head (RVal.use (c_ctldS _ _)); walk_at "c_gI") | (o_head (RStr.use (c_tcd _ _ (by omega))); walk_at "c_gI") | (o_head (RNamed.use (c_named _ _)); walk_at "c_gI"))) | ((with_reducible show Mid ..); with_reducible ((k_here; exact Mid.intro (by k_asm) (by k_asm)))) | ((with_reducible show MidS ..); with_reducible ((rename Mark => hMark9; refine Hold.out ?_))) | ((with_reducible show InvEnd ..); with_reducible ((rename Mark => hMark9; refine Hold.out ?_))) | ((with_reducible show REnd ..); with_reducible ((rename Mark => hMark9; refine Hold.out ?_))) | ((with_reducible show RPost ..); with_reducible (dsimp only [RPost])) | ((with_reducible show wpAny _ _ (pyIter (.ref _)) _ _ _); with_reducible ((rename Mark => hMark9; refine Hold.out ?_))) | ((with_reducible show wpAny _ _ (call (.type "enumerate") _) _ _ _); with_reducible ((rename Mark => hMark9; refine Hold.out ?_))) | ((with_reducible show wpAny _ _ (exec (.For (.Name ..) (.Call ..) ..) _) _ _ _); with_reducible ((k_here; (rename Fr _ _ _ _ => lF'); (with_unfolding_all refine' For_invVF lF' ?k1 ?k2 ?_; (case k1 => exact rfl); (case k2 => exact rfl); k_whole)))) | ((with_reducible show wpAny _ _ (exec (.For (.Tuple ..) (.Call ..) ..) _) _ _ _); with_reducible ((k_here; (rename Fr _ _ _ _ => lF'); (with_unfolding_all refine' For_turns lF' ?_; k_whole)))) | ((with_reducible show wpAny _ _ (exec (.Assign _ (.ListComp ..) ..) _) _ _ _); with_reducible ((k_here; rename Mark => hMark9; k_dflt (refine LCg.Assign_ListComp_U (F₀ := by k_asm) (by rfl) (by with_unfolding_all rfl) (by with_unfolding_all rfl) (by decide) (by rfl) (by decide) (by rfl) (by rfl) (by rfl) ?_)))) | ((with_reducible show wpAny _ _ (eval (.ListComp ..) _) _ _ _); with_reducible ((k_here; rename Mark => hMark9; k_dflt (refine LCg.ListComp_U (F₀ := by k_asm) (by with_unfolding_all rfl) (by decide) (by rfl) (by decide) (by rfl) ?_)))) | ((with_reducible show LCg.CompEnd ..); with_reducible ((rename Mark => hMark9; refine Hold.out ?_))) | ((with_reducible show LCg.CompSrc ..); with_reducible ((rename Mark => hMark9; refine Hold.out ?_))) | ((with_reducible show LeaveO ..); with_reducible ((k_dflt (refine' LeaveO.intro ?k1 ?k2 ?_; (case k1 => k_asm); (case k2 => k_asm); k_whole; (try dsimp only))))) | walk1 | (dsimp only; walk1) | (leave1; walk_say "STEP leave1"; try dsimp only) | fail "no step"); (all_goals (try k_data)))
            exact ⟨_, _, _, _, rfl, by k_asm, newsMid' (by k_asm), offPot kI pI cI hP9, _, hP9, rfl⟩
        case done4 =>
          rename News _ _ _ _ => N₃
          rename Fr _ _ _ _ => F₃
          clear N₃ F₃ hPo hPK hCK
          rintro m₁ nw h tk ⟨po2, hP2, rfl⟩ F N
          clear hP2
          (repeat' (first | (k_unfold; (try dsimp only)) | (k_end; wrow_close) | ((with_reducible show wpAny _ _ (call (.ref _) _) _ _ _); with_reducible (first | (o_head ((RKey.useP (c_key _ _ _ 0 (by assumption)) (by assumption)), ()); walk_at "c_gD") | (o_head ((RDip.useN (c_dip _ _ _ _ _ (by assumption) (by decide) (by decide)) (by assumption)), ()); walk_at "c_gD") | (o_head (RStr.use (c_skdK (by assumption))); walk_at "c_gI") | (o_head (RSame.use (c_readK _ (by assumption))); walk_at "c_gI") | (o_head (RStr.use (c_skdI2 _ _ _ _ (by assumption))); walk_at "c_gI") | (o_head (RStr.use (c_skdB _ (by assumption))); walk_at "c_gI") | (o_head (RVal.use (c_ctldI _ _ _ (by assumption))); walk_at "c_gI") | (o_head (RVal.use (c_ctldS _ _)); walk_at "c_gI") | (o_head (RStr.use (c_tcd _ _ (by omega))); walk_at "c_gI") | (o_head (RNamed.use (c_named _ _)); walk_at "c_gI"))) | ((with_reducible show Mid ..); with_reducible ((k_here; exact Mid.intro (by k_asm) (by k_asm)))) | ((with_reducible show MidS ..); with_reducible ((rename Mark => hMark9; refine Hold.out ?_))) | ((with_reducible show InvEnd ..); with_reducible ((rename Mark => hMark9; refine Hold.out ?_))) | ((with_reducible show REnd ..); with_reducible ((rename Mark => hMark9; refine Hold.out ?_))) | ((with_reducible show RPost ..); with_reducible (dsimp only [RPost])) | ((with_reducible show wpAny _ _ (pyIter (.ref _)) _ _ _); with_reducible ((rename Mark => hMark9; refine Hold.out ?_))) | ((with_reducible show wpAny _ _ (call (.type "enumerate") _) _ _ _); with_reducible ((rename Mark => hMark9; refine Hold.out ?_))) | ((with_reducible show wpAny _ _ (exec (.For (.Name ..) (.Call ..) ..) _) _ _ _); with_reducible ((k_here; (rename Fr _ _ _ _ => lF'); (with_unfolding_all refine' For_invVF lF' ?k1 ?k2 ?_; (case k1 => exact rfl); (case k2 => exact rfl); k_whole)))) | ((with_reducible show wpAny _ _ (exec (.For (.Tuple ..) (.Call ..) ..) _) _ _ _); with_reducible ((k_here; (rename Fr _ _ _ _ => lF'); (with_unfolding_all refine' For_turns lF' ?_; k_whole)))) | ((with_reducible show wpAny _ _ (exec (.Assign _ (.ListComp ..) ..) _) _ _ _); with_reducible ((k_here; rename Mark => hMark9; k_dflt (refine LCg.Assign_ListComp_U (F₀ := by k_asm) (by rfl) (by with_unfolding_all rfl) (by with_unfolding_all rfl) (by decide) (by rfl) (by decide) (by rfl) (by rfl) (by rfl) ?_)))) | ((with_reducible show wpAny _ _ (eval (.ListComp ..) _) _ _ _); with_reducible ((k_here; rename Mark => hMark9; k_dflt (refine LCg.ListComp_U (F₀ := by k_asm) (by with_unfolding_all rfl) (by decide) (by rfl) (by decide) (by rfl) ?_)))) | ((with_reducible show LCg.CompEnd ..); with_reducible ((rename Mark => hMark9; refine Hold.out ?_))) | ((with_reducible show LCg.CompSrc ..); with_reducible ((rename Mark => hMark9; refine Hold.out ?_))) | ((with_reducible show LeaveO ..); with_reducible ((k_dflt (refine' LeaveO.intro ?k1 ?k2 ?_; (case k1 => k_asm); (case k2 => k_asm); k_whole; (try dsimp only))))) | walk1 | (dsimp only; walk1) | (leave1; walk_say "STEP leave1"; try dsimp only) | fail "no step"); (all_goals (try k_data)))
          rename News _ _ _ _ => N
          replace N := newsHead N
          refine ⟨LCg.CompSrc.ledger (by rfl) (by k_asm) N (by k_mem) (by first | size_fits | exact Nat.le_of_ble_eq_true rfl) ?_⟩
          intro g₄
          refine rest_inv (JN _) ?fin5 ?turn5 _ 0 _ _ (Nat.zero_add _) ⟨rfl, rfl⟩
          case turn5 =>
            rename News _ _ _ _ => N₃
            rename Fr _ _ _ _ => F₃
            clear N₃ F₃
            rintro i ys nw hi hJ v I oI C9 oC D9 m₂ h tk E' hP hC hx F N off ne
            obtain ⟨x, t, rfl, hx9⟩ := nm_item (by rw [List.getElem?_toArray] at hP; exact hP)
            obtain rfl := hJ.1
            (repeat' (first | (k_unfold; (try dsimp only)) | (k_end; wrow_close) | ((with_reducible show wpAny _ _ (call (.ref _) _) _ _ _); with_reducible (first | (o_head ((RKey.useP (c_key _ _ _ 0 (by assumption)) (by assumption)), ()); walk_at "c_gD") | (o_head ((RDip.useN (c_dip _ _ _ _ _ (by assumption) (by decide) (by decide)) (by assumption)), ()); walk_at "c_gD") | (o_head (RStr.use (c_skdK (by assumption))); walk_at "c_gI") | (o_head (RSame.use (c_readK _ (by assumption))); walk_at "c_gI") | (o_head (RStr.use (c_skdI2 _ _ _ _ (by assumption))); walk_at "c_gI") | (o_head (RStr.use (c_skdB _ (by assumption))); walk_at "c_gI") | (o_head (RVal.use (c_ctldI _ _ _ (by assumption))); walk_at "c_gI") | (o_head (RVal.use (c_ctldS _ _)); walk_at "c_gI") | (o_head (RStr.use (c_tcd _ _ (by omega))); walk_at "c_gI") | (o_head (RNamed.use (c_named _ _)); walk_at "c_gI"))) | ((with_reducible show Mid ..); with_reducible ((k_here; exact Mid.intro (by k_asm) (by k_asm)))) | ((with_reducible show MidS ..); with_reducible ((rename Mark => hMark9; refine Hold.out ?_))) | ((with_reducible show InvEnd ..); with_reducible ((rename Mark => hMark9; refine Hold.out ?_))) | ((with_reducible show REnd ..); with_reducible ((rename Mark => hMark9; refine Hold.out ?_))) | ((with_reducible show RPost ..); with_reducible (dsimp only [RPost])) | ((with_reducible show wpAny _ _ (pyIter (.ref _)) _ _ _); with_reducible ((rename Mark => hMark9; refine Hold.out ?_))) | ((with_reducible show wpAny _ _ (call (.type "enumerate") _) _ _ _); with_reducible ((rename Mark => hMark9; refine Hold.out ?_))) | ((with_reducible show wpAny _ _ (exec (.For (.Name ..) (.Call ..) ..) _) _ _ _); with_reducible ((k_here; (rename Fr _ _ _ _ => lF'); (with_unfolding_all refine' For_invVF lF' ?k1 ?k2 ?_; (case k1 => exact rfl); (case k2 => exact rfl); k_whole)))) | ((with_reducible show wpAny _ _ (exec (.For (.Tuple ..) (.Call ..) ..) _) _ _ _); with_reducible ((k_here; (rename Fr _ _ _ _ => lF'); (with_unfolding_all refine' For_turns lF' ?_; k_whole)))) | ((with_reducible show wpAny _ _ (exec (.Assign _ (.ListComp ..) ..) _) _ _ _); with_reducible ((k_here; rename Mark => hMark9; k_dflt (refine LCg.Assign_ListComp_U (F₀ := by k_asm) (by rfl) (by with_unfolding_all rfl) (by with_unfolding_all rfl) (by decide) (by rfl) (by decide) (by rfl) (by rfl) (by rfl) ?_)))) | ((with_reducible show wpAny _ _ (eval (.ListComp ..) _) _ _ _); with_reducible ((k_here; rename Mark => hMark9; k_dflt (refine LCg.ListComp_U (F₀ := by k_asm) (by with_unfolding_all rfl) (by decide) (by rfl) (by decide) (by rfl) ?_)))) | ((with_reducible show LCg.CompEnd ..); with_reducible ((rename Mark => hMark9; refine Hold.out ?_))) | ((with_reducible show LCg.CompSrc ..); with_reducible ((rename Mark => hMark9; refine Hold.out ?_))) | ((with_reducible show LeaveO ..); with_reducible ((k_dflt (refine' LeaveO.intro ?k1 ?k2 ?_; (case k1 => k_asm); (case k2 => k_asm); k_whole; (try dsimp only))))) | walk1 | (dsimp only; walk1) | (leave1; walk_say "STEP leave1"; try dsimp only) | fail "no step"); (all_goals (try k_data)))
            exact ⟨LCg.CompEnd.intro (by k_asm) (by k_asm) _ (fun p h => h) off (.inr ⟨_, by k_mem, rfl, _, rfl⟩) (hJ.snoc hx9 (by assumption))⟩
          case fin5 =>
            rename News _ _ _ _ => N₃
            rename Fr _ _ _ _ => F₃
            clear N₃ F₃
            rintro ys nw hJ
            obtain ⟨t0, t1, t2, t3, t4, t5, t6, rfl⟩ := hJ.fin
            obtain rfl := hJ.1
            rename Mark => hM
            clear hM
            intro D5 h tk F N o1
            (repeat' (first | (k_unfold; (try dsimp only)) | (k_end; wrow_close) | ((with_reducible show wpAny _ _ (call (.ref _) _) _ _ _); with_reducible (first | (o_head ((RKey.useP (c_key _ _ _ 0 (by assumption)) (by assumption)), ()); walk_at "c_gD") | (o_head ((RDip.useN (c_dip _ _ _ _ _ (by assumption) (by decide) (by decide)) (by assumption)), ()); walk_at "c_gD") | (o_head (RStr.use (c_skdK (by assumption))); walk_at "c_gI") | (o_head (RSame.use (c_readK _ (by assumption))); walk_at "c_gI") | (o_head (RStr.use (c_skdI2 _ _ _ _ (by assumption))); walk_at "c_gI") | (o_head (RStr.use (c_skdB _ (by assumption))); walk_at "c_gI") | (o_head (RVal.use (c_ctldI _ _ _ (by assumption))); walk_at "c_gI") | (o_head (RVal.use (c_ctldS _ _)); walk_at "c_gI") | (o_head (RStr.use (c_tcd _ _ (by omega))); walk_at "c_gI") | (o_head (RNamed.use (c_named _ _)); walk_at "c_gI"))) | ((with_reducible show Mid ..); with_reducible ((k_here; exact Mid.intro (by k_asm) (by k_asm)))) | ((with_reducible show MidS ..); with_reducible ((rename Mark => hMark9; refine Hold.out ?_))) | ((with_reducible show InvEnd ..); with_reducible ((rename Mark => hMark9; refine Hold.out ?_))) | ((with_reducible show REnd ..); with_reducible ((rename Mark => hMark9; refine Hold.out ?_))) | ((with_reducible show RPost ..); with_reducible (dsimp only [RPost])) | ((with_reducible show wpAny _ _ (pyIter (.ref _)) _ _ _); with_reducible ((rename Mark => hMark9; refine Hold.out ?_))) | ((with_reducible show wpAny _ _ (call (.type "enumerate") _) _ _ _); with_reducible ((rename Mark => hMark9; refine Hold.out ?_))) | ((with_reducible show wpAny _ _ (exec (.For (.Name ..) (.Call ..) ..) _) _ _ _); with_reducible ((k_here; (rename Fr _ _ _ _ => lF'); (with_unfolding_all refine' For_invVF lF' ?k1 ?k2 ?_; (case k1 => exact rfl); (case k2 => exact rfl); k_whole)))) | ((with_reducible show wpAny _ _ (exec (.For (.Tuple ..) (.Call ..) ..) _) _ _ _); with_reducible ((k_here; (rename Fr _ _ _ _ => lF'); (with_unfolding_all refine' For_turns lF' ?_; k_whole)))) | ((with_reducible show wpAny _ _ (exec (.Assign _ (.ListComp ..) ..) _) _ _ _); with_reducible ((k_here; rename Mark => hMark9; k_dflt (refine LCg.Assign_ListComp_U (F₀ := by k_asm) (by rfl) (by with_unfolding_all rfl) (by with_unfolding_all rfl) (by decide) (by rfl) (by decide) (by rfl) (by rfl) (by rfl) ?_)))) | ((with_reducible show wpAny _ _ (eval (.ListComp ..) _) _ _ _); with_reducible ((k_here; rename Mark => hMark9; k_dflt (refine LCg.ListComp_U (F₀ := by k_asm) (by with_unfolding_all rfl) (by decide) (by rfl) (by decide) (by rfl) ?_)))) | ((with_reducible show LCg.CompEnd ..); with_reducible ((rename Mark => hMark9; refine Hold.out ?_))) | ((with_reducible show LCg.CompSrc ..); with_reducible ((rename Mark => hMark9; refine Hold.out ?_))) | ((with_reducible show LeaveO ..); with_reducible ((k_dflt (refine' LeaveO.intro ?k1 ?k2 ?_; (case k1 => k_asm); (case k2 => k_asm); k_whole; (try dsimp only))))) | walk1 | (dsimp only; walk1) | (leave1; walk_say "STEP leave1"; try dsimp only) | fail "no step"); (all_goals (try k_data))))
end Mine
theorem PySem.Challenge.cw_oj0022_01_holds : PySem.Challenge.rw_oj0022_01.Holds :=
  Mine.main
