import PyProof.Rows.All
import Wide.All
import OpenK.AllK
import Wide.FinOn
import HandS.ForMost
import HandS.Exc
import HandS.ExcInit
import HandS.Defaults
import HandS.IsInst
import HandS.Conv
import HandS.Wide
import HandS.WordsExc
import HandS.Flow
import KE.GoesEnumKw
import KE.KeyNested
import HandS.DictComp
import HandS.Style
import HandS.Ends
import PySem.Challenge.RW_jointoll_k54_whole_yards_and_worths
set_option Elab.async false
set_option linter.all false
set_option maxRecDepth 100000
set_option maxHeartbeats 4000000
/-! Y1: symbolic execution straight on the tree of a text, over the hand layer's judgements. -/
namespace Y
open PySem PySem.Spec PyProof.Rows L2

/-- the written world of a proof -/
structure Wd where
  P : Program
  w : World
  K : PySem.W.Frag
  mg : Str → Option Value
  base : Heap

/-- the slots: a name that may be seen here, and whether it may be stored here -/
abbrev Msk := List (Option (Str × Bool))
inductive At2 : Msk → L2.St → Str → V → Prop
  | z {x : Str} {b : Bool} {v : V} {M : Msk} {σ : L2.St} : At2 (some (x, b) :: M) (some v :: σ) x v
  | s {x : Str} {v : V} {y : Option (Str × Bool)} {w : Option V} {M : Msk} {σ : L2.St} : At2 M σ x v → At2 (y :: M) (w :: σ) x v
inductive Up2 : Msk → L2.St → Str → V → L2.St → Prop
  | z {x : Str} {v : V} {w : Option V} {M : Msk} {σ : L2.St} : Up2 (some (x, true) :: M) (w :: σ) x v (some v :: σ)
  | s {x : Str} {v : V} {y : Option (Str × Bool)} {w : Option V} {M : Msk} {σ σ' : L2.St} : Up2 M σ x v σ' → Up2 (y :: M) (w :: σ) x v (w :: σ')
theorem At2.ix {M : Msk} {σ : L2.St} {x : Str} {v : V} (h : At2 M σ x v) : ∃ (i : Nat) (b : Bool), M[i]? = some (some (x, b)) ∧ σ[i]? = some (some v) := by
  induction h with
  | z => exact ⟨0, _, rfl, rfl⟩
  | s _ ih => obtain ⟨i, b, h1, h2⟩ := ih; exact ⟨i + 1, b, by simpa using h1, by simpa using h2⟩
theorem Up2.ix {M : Msk} {σ σ' : L2.St} {x : Str} {v : V} (h : Up2 M σ x v σ') : ∃ i : Nat, M[i]? = some (some (x, true)) ∧ σ' = σ.set i (some v) := by
  induction h with
  | z => exact ⟨0, rfl, rfl⟩
  | s _ ih => obtain ⟨i, h1, h2⟩ := ih; exact ⟨i + 1, by simpa using h1, by rw [h2]; rfl⟩

/-- the check of a mask against the slots' names and the scope -/
def okM (sc : Scope) : List Str → Msk → Bool
  | _, [] => true
  | [], _ :: _ => false
  | _ :: N, none :: M => okM sc N M
  | x :: N, some (y, b) :: M => decide (x = y) && (match sc.names.lookup x with | some .local => true | some .cell => true | some .free => !b | _ => false) && !(x == ("__debug__" : Str)) && !(x == ("__classdict__" : Str)) && okM sc N M
def okG (sc : Scope) (G : List Str) : Bool := G.all fun x => decide (sc.names.lookup x = some .globalImplicit) && !(x == ("__debug__" : Str)) && decide (x ≠ ("__name__" : Str))
def okS (sc : Scope) : Msk → Bool
  | [] => true
  | some (y, true) :: M => (match sc.names.lookup y with | some .local => true | some .cell => true | _ => false) && okS sc M
  | _ :: M => okS sc M
theorem okS_at {sc : Scope} : ∀ {M : Msk}, okS sc M = true → ∀ {i : Nat} {x : Str}, M[i]? = some (some (x, true)) → sc.names.lookup x = some .local ∨ sc.names.lookup x = some .cell
  | [], _, i, x, e => by simp at e
  | none :: M, h, i, x, e => by
    cases i with
    | zero => simp at e
    | succ i => exact okS_at (M := M) (by simpa [okS] using h) (i := i) (by simpa using e)
  | some (y, false) :: M, h, i, x, e => by
    cases i with
    | zero => simp at e
    | succ i => exact okS_at (M := M) (by simpa [okS] using h) (i := i) (by simpa using e)
  | some (y, true) :: M, h, i, x, e => by
    unfold okS at h
    rw [Bool.and_eq_true] at h
    cases i with
    | succ i => exact okS_at (M := M) h.2 (i := i) (by simpa using e)
    | zero =>
      simp only [List.getElem?_cons_zero, Option.some.injEq, Prod.mk.injEq, and_true] at e
      subst e
      have h1 := h.1
      split at h1
      · exact .inl (by assumption)
      · exact .inr (by assumption)
      · cases h1
theorem okM_at {sc : Scope} : ∀ {N : List Str} {M : Msk}, okM sc N M = true → ∀ {i : Nat} {x : Str} {b : Bool}, M[i]? = some (some (x, b)) →
    N[i]? = some x ∧ (sc.names.lookup x = some .local ∨ sc.names.lookup x = some .cell ∨ (b = false ∧ sc.names.lookup x = some .free)) ∧ (x == ("__debug__" : Str)) = false ∧ (x == ("__classdict__" : Str)) = false
  | _, [], _, i, x, b, h => by simp at h
  | [], _ :: _, h, _, _, _, _ => by simp [okM] at h
  | y :: N, none :: M, h, i, x, b, e => by
    cases i with
    | zero => simp at e
    | succ i => exact okM_at (N := N) (M := M) (by simpa [okM] using h) (i := i) (by simpa using e)
  | y :: N, some (z, c) :: M, h, i, x, b, e => by
    unfold okM at h
    simp only [Bool.and_eq_true, decide_eq_true_eq, Bool.not_eq_true'] at h
    obtain ⟨⟨⟨⟨h1, h2⟩, h3⟩, h4⟩, h5⟩ := h
    cases i with
    | succ i => exact okM_at (N := N) (M := M) h5 (i := i) (by simpa using e)
    | zero =>
      simp only [List.getElem?_cons_zero, Option.some.injEq, Prod.mk.injEq] at e
      obtain ⟨rfl, rfl⟩ := e
      subst h1
      refine ⟨by simp, ?_, h3, h4⟩
      split at h2
      · exact .inl (by assumption)
      · exact .inr (.inl (by assumption))
      · exact .inr (.inr ⟨by simpa using h2, by assumption⟩)
      · cases h2
theorem okG_at {sc : Scope} {G : List Str} (h : okG sc G = true) {x : Str} (hx : x ∈ G) : sc.names.lookup x = some .globalImplicit ∧ (x == ("__debug__" : Str)) = false ∧ x ≠ ("__name__" : Str) := by
  unfold okG at h
  have := List.all_eq_true.mp h x hx
  simp only [Bool.and_eq_true, decide_eq_true_eq, Bool.not_eq_true'] at this
  exact ⟨this.1.1, this.1.2, this.2⟩
/-- what is known of the frame that stands -/
structure Bd (Z : Wd) (X : Cx) (N : List Str) (sc : Scope) (M : Msk) (G : List Str) : Prop where
  prog : X.prog = Z.P
  w : X.w = Z.w
  K : X.K = Z.K
  mg : X.mg = Z.mg
  base : X.base = Z.base
  hN : X.N = N
  hsc : X.env.scope = sc
  okm : okM sc N M = true
  okg : okG sc G = true
  sto : ∀ (i : Nat) (x : Str), M[i]? = some (some (x, true)) → X.fn x = true ∨ X.env.scope.names.lookup x = some .local
  nd : X.N.Nodup
  calm : X.calm = true
  gd : X.A.guards = some []
section bd
variable {Z : Wd} {X : Cx} {N : List Str} {sc : Scope} {M : Msk} {G : List Str}
theorem Bd.vis (B : Bd Z X N sc M G) : ∀ (i : Nat) (x : Str) (b : Bool), M[i]? = some (some (x, b)) → X.N[i]? = some x ∧ Vis X.env.scope x ∧ (x == ("__debug__" : Str)) = false ∧ (x == ("__classdict__" : Str)) = false := fun i x b h => by
  obtain ⟨h1, h2, h3, h4⟩ := okM_at B.okm h
  rw [B.hN, B.hsc]
  refine ⟨h1, ?_, h3, h4⟩
  rcases h2 with h | h | ⟨_, h⟩
  · exact .inl h
  · exact .inr (.inl h)
  · exact .inr (.inr h)
theorem Bd.loc (B : Bd Z X N sc M G) : ∀ (i : Nat) (x : Str), M[i]? = some (some (x, true)) → Loc X.env.scope x ∧ (X.fn x = true ∨ X.env.scope.names.lookup x = some .local) := fun i x h => by
  obtain ⟨h1, h2, h3, h4⟩ := okM_at B.okm h
  refine ⟨?_, B.sto i x h⟩
  rw [B.hsc]
  rcases h2 with h | h | ⟨z, h⟩
  · exact .inl h
  · exact .inr h
  · cases z
theorem Bd.gl (B : Bd Z X N sc M G) : ∀ x, x ∈ G → Gl X x ∧ (x == ("__debug__" : Str)) = false ∧ x ≠ ("__name__" : Str) := fun x h => by
  obtain ⟨h1, h2, h3⟩ := okG_at B.okg h
  refine ⟨?_, h2, h3⟩
  show X.env.scope.names.lookup x = some .globalImplicit
  rw [B.hsc]
  exact h1
end bd

/-! ### the weakest conditions, by the form of a text -/
def WE (X : Cx) (e : Expr) (σ : L2.St) (H : Hp) (Q : VK) : Prop :=
  ∀ (pins : List (Addr × Obj)) (s : Shared), Inv X pins σ H s → wpAny (model X.prog X.w) X.A (eval e X.env) (EP X pins σ Q) X.xe s
def WT (X : Cx) (e : Expr) (σ : L2.St) (H : Hp) (Q : Bool → Hp → Prop) : Prop :=
  ∀ (pins : List (Addr × Obj)) (s : Shared), Inv X pins σ H s → wpAny (model X.prog X.w) X.A (isTrue e X.env (eval e X.env)) (TP X pins σ Q) X.xe s
def WW (X : Cx) (e : Expr) (σ : L2.St) (H : Hp) (Q : Bool → Hp → Prop) : Prop :=
  ∀ (whole : Sem Value) (pins : List (Addr × Obj)) (s : Shared), Inv X pins σ H s → wpAny (model X.prog X.w) X.A (isTrue e X.env whole) (TP X pins σ Q) X.xe s
def WA (X : Cx) (es : List Expr) (σ : L2.St) (H : Hp) (Q : List V → Hp → Prop) : Prop :=
  ∀ (pos : Pos) (pins : List (Addr × Obj)) (s : Shared), Inv X pins σ H s → wpAny (model X.prog X.w) X.A (spliced (backTo pos (starEach es X.env))) (AP X pins σ Q) X.xe s
def WK (X : Cx) (kws : List Keyword) (σ : L2.St) (H : Hp) (Q : List V → Hp → Prop) : Prop :=
  ∀ (pos : Pos) (pins : List (Addr × Obj)) (s : Shared), Inv X pins σ H s → wpAny (model X.prog X.w) X.A (evalAll ((backToKw pos (keywordEach kws X.env)).map (·.2))) (AP X pins σ Q) X.xe s
def WS (X : Cx) (st : Stmt) (D : Ends) (σ : L2.St) (H : Hp) : Prop :=
  ∀ (pins : List (Addr × Obj)) (s : Shared), Inv X pins σ H s → wpAny (model X.prog X.w) X.A (exec st X.env) (SP X pins D) X.xe s
def WSs (X : Cx) (st : List Stmt) (D : Ends) (σ : L2.St) (H : Hp) : Prop :=
  ∀ (pins : List (Addr × Obj)) (s : Shared), Inv X pins σ H s → wpAny (model X.prog X.w) X.A (execs st X.env) (SP X pins D) X.xe s
def WG (X : Cx) (tg : Expr) (v : V) (σ : L2.St) (H : Hp) (Q : L2.St → Hp → Prop) : Prop :=
  ∀ (pins : List (Addr × Obj)) (s : Shared) (u : Value), Inv X pins σ H s → RelV v u →
    wpAny (model X.prog X.w) X.A (assign tg X.env u) (fun _ s' => ∃ σ' H', Inv X pins σ' H' s' ∧ Q σ' H') X.xe s
def WGs (X : Cx) (ts : List Expr) (vs : List V) (σ : L2.St) (H : Hp) (Q : L2.St → Hp → Prop) : Prop :=
  ∀ (pins : List (Addr × Obj)) (s : Shared) (us : List Value), Inv X pins σ H s → Vals vs us →
    wpAny (model X.prog X.w) X.A (assignInOrder ((assignEach ts X.env).map (·.2)) us) (fun _ s' => ∃ σ' H', Inv X pins σ' H' s' ∧ Q σ' H') X.xe s
def WI (X : Cx) (tg iter : Expr) (σ : L2.St) (H : Hp) (R : It → Hp → Prop) : Prop :=
  ∀ (pins : List (Addr × Obj)) (s : Shared), Inv X pins σ H s →
    wpAny (model X.prog X.w) X.A (eval iter X.env) (fun v s1 => wpAny (model X.prog X.w) X.A (pyIter v) (PIE X pins σ tg R) X.xe s1) X.xe s
def WO (X : Cx) (e : Option Expr) (σ : L2.St) (H : Hp) (Q : Option Int → Hp → Prop) : Prop :=
  ∀ (pins : List (Addr × Obj)) (s : Shared), Inv X pins σ H s → wpAny (model X.prog X.w) X.A (evalPart e X.env) (fun u s' => ∃ o H', Inv X pins σ H' s' ∧ IsPart u o ∧ Q o H') X.xe s
def WTs (X : Cx) (ifs : List Expr) (σ : L2.St) (H : Hp) (Q : Bool → Hp → Prop) : Prop :=
  ∀ (pins : List (Addr × Obj)) (s : Shared), Inv X pins σ H s →
    wpAny (model X.prog X.w) X.A (forIn ifs true fun c r => if r = true then do let ok ← isTrue c X.env (eval c X.env); pure (ForInStep.yield ok) else pure (ForInStep.yield r)) (TP X pins σ Q) X.xe s
/-- an operation by values -/
def BO (X : Cx) (f : Value → Value → Sem Value) (x y : V) (H : Hp) (Q : VK) : Prop :=
  ∀ (pins : List (Addr × Obj)) (s : Shared) (σ : L2.St) (v u : Value), Inv X pins σ H s → RelV x v → RelV y u → wpAny (model X.prog X.w) X.A (f v u) (EP X pins σ Q) X.xe s
def UO (X : Cx) (f : Value → Sem Value) (x : V) (H : Hp) (Q : VK) : Prop :=
  ∀ (pins : List (Addr × Obj)) (s : Shared) (σ : L2.St) (v : Value), Inv X pins σ H s → RelV x v → wpAny (model X.prog X.w) X.A (f v) (EP X pins σ Q) X.xe s
def CO (X : Cx) (f : Value) (xs : List V) (H : Hp) (Q : VK) : Prop :=
  ∀ (pins : List (Addr × Obj)) (s : Shared) (σ : L2.St) (us : List Value), Inv X pins σ H s → Vals xs us → wpAny (model X.prog X.w) X.A (call f us) (EP X pins σ Q) X.xe s
def MO (X : Cx) (id : String) (x : V) (xs : List V) (H : Hp) (Q : VK) : Prop :=
  ∀ (pins : List (Addr × Obj)) (s : Shared) (σ : L2.St) (v : Value) (us : List Value), Inv X pins σ H s → RelV x v → Vals xs us → wpAny (model X.prog X.w) X.A (call (.builtin id) (v :: us)) (EP X pins σ Q) X.xe s
def TO' (X : Cx) (x : V) (H : Hp) (Q : Bool → Hp → Prop) : Prop :=
  ∀ (pins : List (Addr × Obj)) (s : Shared) (σ : L2.St) (v : Value), Inv X pins σ H s → RelV x v → wpAny (model X.prog X.w) X.A (truthy v) (TP X pins σ Q) X.xe s
def IO (X : Cx) (x y : V) (H : Hp) (Q : VK) : Prop :=
  ∀ (value slice : Expr) (pins : List (Addr × Obj)) (s : Shared) (σ : L2.St) (v u : Value), Inv X pins σ H s → RelV x v → RelV y u →
    subscripted slice false v u = operate [v, u] (getItem v u) → wpAny (model X.prog X.w) X.A (subscriptTail value slice v u) (EP X pins σ Q) X.xe s
def SO (X : Cx) (x : V) (lo hi : Option Int) (H : Hp) (Q : VK) : Prop :=
  ∀ (pins : List (Addr × Obj)) (s : Shared) (σ : L2.St) (v vl vu : Value) (sl : Addr), Inv X pins σ H s → RelV x v → s.heap.IsSliceOf sl vl vu .none → IsPart vl lo → IsPart vu hi →
    ∃ T id, typeLookup (.type T) "__getitem__" = pure (some (.builtin id)) ∧ s.TypeIs v T ∧ wpAny (model X.prog X.w) X.A (getItem v (.ref sl)) (EP X pins σ Q) X.xe s
def SE (X : Cx) (o i v : V) (H : Hp) (Q : Hp → Prop) : Prop :=
  ∀ (pins : List (Addr × Obj)) (s : Shared) (σ : L2.St) (ov iv u : Value), Inv X pins σ H s → RelV o ov → RelV i iv → RelV v u →
    wpAny (model X.prog X.w) X.A (setItem ov iv u) (fun _ s' => ∃ H', Inv X pins σ H' s' ∧ Q H') X.xe s

section lift
variable {X : Cx} {σ : L2.St} {H : Hp}
theorem pE (X : Cx) (e : Expr) : PE X e (fun σ H Q => WE X e σ H Q) := ⟨fun pins s _ _ _ I h => h pins s I⟩
theorem pT (X : Cx) (e : Expr) : PT X e (fun σ H Q => WT X e σ H Q) := ⟨fun pins s _ _ _ I h => h pins s I⟩
theorem pW (X : Cx) (e : Expr) : PW X e (fun σ H Q => WW X e σ H Q) := ⟨fun wh pins s _ _ _ I h => h wh pins s I⟩
theorem pA (X : Cx) (es : List Expr) : PA X es (fun σ H Q => WA X es σ H Q) := ⟨fun pos pins s _ _ _ I h => h pos pins s I⟩
theorem pK (X : Cx) (ks : List Keyword) : PK X ks (fun σ H Q => WK X ks σ H Q) := ⟨fun pos pins s _ _ _ I h => h pos pins s I⟩
theorem pS (X : Cx) (st : Stmt) : PS X st (fun D σ H => WS X st D σ H) := ⟨fun pins s _ _ _ I h => h pins s I⟩
theorem pSs (X : Cx) (st : List Stmt) : PSs X st (fun D σ H => WSs X st D σ H) := ⟨fun pins s _ _ _ I h => h pins s I⟩
theorem pG (X : Cx) (tg : Expr) : PG X tg (fun v σ H Q => WG X tg v σ H Q) := ⟨fun pins s _ _ _ u _ I r h => h pins s u I r⟩
theorem pGs (X : Cx) (ts : List Expr) : PGs X ts (fun v σ H Q => WGs X ts v σ H Q) := ⟨fun pins s _ _ _ u _ I r h => h pins s u I r⟩
theorem pI (X : Cx) (tg iter : Expr) : PI X tg iter (fun σ H R => WI X tg iter σ H R) := ⟨fun pins s _ _ _ I h => h pins s I⟩
theorem pO (X : Cx) (e : Option Expr) : PO X e (fun σ H Q => WO X e σ H Q) := ⟨fun pins s _ _ _ I h => h pins s I⟩
theorem pTs (X : Cx) (ifs : List Expr) : PTs X ifs (fun σ H Q => WTs X ifs σ H Q) := ⟨fun pins s _ _ _ I h => h pins s I⟩
theorem oB (X : Cx) (f) : OpR X f (BO X f) := fun pins s σ _ _ _ v u _ I r1 r2 h => h pins s σ v u I r1 r2
theorem oU (X : Cx) (f) : UnR X f (UO X f) := fun pins s σ _ _ v _ I r1 h => h pins s σ v I r1
theorem oC (X : Cx) (f) : CallR X f (CO X f) := fun pins s σ _ _ us _ I r h => h pins s σ us I r
theorem oM (X : Cx) (id) : MtR X id (MO X id) := fun pins s σ _ _ _ v us _ I r1 r2 h => h pins s σ v us I r1 r2
theorem oI (X : Cx) : IxR X (IO X) := fun value slice pins s σ _ _ _ v u _ I r1 r2 h e => h value slice pins s σ v u I r1 r2 e
theorem oS (X : Cx) : SlR X (SO X) := fun pins s σ _ _ v vl vu _ _ sl _ I r hs p1 p2 h => h pins s σ v vl vu sl I r hs p1 p2
theorem oE (X : Cx) : PSet X (SE X) := fun pins s σ _ _ _ _ ov iv u _ I r1 r2 r3 h => h pins s σ ov iv u I r1 r2 r3
theorem wE {e : Expr} {t : TE} (h : PE X e t) {Q : VK} (q : t σ H Q) : WE X e σ H Q := fun pins s I => h.run pins s σ H Q I q
theorem wT {e : Expr} {t : TT} (h : PT X e t) {Q : Bool → Hp → Prop} (q : t σ H Q) : WT X e σ H Q := fun pins s I => h.run pins s σ H Q I q
theorem wW {e : Expr} {t : TT} (h : PW X e t) {Q : Bool → Hp → Prop} (q : t σ H Q) : WW X e σ H Q := fun wh pins s I => h.run wh pins s σ H Q I q
theorem wA {es : List Expr} {t : TA} (h : PA X es t) {Q : List V → Hp → Prop} (q : t σ H Q) : WA X es σ H Q := fun pos pins s I => h.run pos pins s σ H Q I q
theorem wK {ks : List Keyword} {t : TA} (h : PK X ks t) {Q : List V → Hp → Prop} (q : t σ H Q) : WK X ks σ H Q := fun pos pins s I => h.run pos pins s σ H Q I q
theorem wS {st : Stmt} {t : TS} (h : PS X st t) {D : Ends} (q : t D σ H) : WS X st D σ H := fun pins s I => h.run pins s σ H D I q
theorem wSs {st : List Stmt} {t : TS} (h : PSs X st t) {D : Ends} (q : t D σ H) : WSs X st D σ H := fun pins s I => h.run pins s σ H D I q
theorem wG {tg : Expr} {t : TG} (h : PG X tg t) {v : V} {Q : L2.St → Hp → Prop} (q : t v σ H Q) : WG X tg v σ H Q := fun pins s u I r => h.run pins s σ H v u Q I r q
theorem wGs {ts : List Expr} {t : TGs} (h : PGs X ts t) {v : List V} {Q : L2.St → Hp → Prop} (q : t v σ H Q) : WGs X ts v σ H Q := fun pins s u I r => h.run pins s σ H v u Q I r q
theorem wI {tg iter : Expr} {t : TI} (h : PI X tg iter t) {R : It → Hp → Prop} (q : t σ H R) : WI X tg iter σ H R := fun pins s I => h.run pins s σ H R I q
theorem wO {e : Option Expr} {t : TO} (h : PO X e t) {Q : Option Int → Hp → Prop} (q : t σ H Q) : WO X e σ H Q := fun pins s I => h.run pins s σ H Q I q
theorem wTs {ifs : List Expr} {t : TT} (h : PTs X ifs t) {Q : Bool → Hp → Prop} (q : t σ H Q) : WTs X ifs σ H Q := fun pins s I => h.run pins s σ H Q I q
theorem bO {f} {r : R2} (h : OpR X f r) {x y : V} {Q : VK} (q : r x y H Q) : BO X f x y H Q := fun pins s σ v u I r1 r2 => h pins s σ H x y v u Q I r1 r2 q
theorem uO {f} {r} (h : UnR X f r) {x : V} {Q : VK} (q : r x H Q) : UO X f x H Q := fun pins s σ v I r1 => h pins s σ H x v Q I r1 q
theorem cO {f} {r} (h : CallR X f r) {xs : List V} {Q : VK} (q : r xs H Q) : CO X f xs H Q := fun pins s σ us I r1 => h pins s σ H xs us Q I r1 q
theorem mO {id} {r} (h : MtR X id r) {x : V} {xs : List V} {Q : VK} (q : r x xs H Q) : MO X id x xs H Q := fun pins s σ v us I r1 r2 => h pins s σ H x xs v us Q I r1 r2 q
theorem iO {r : R2} (h : IxR X r) {x y : V} {Q : VK} (q : r x y H Q) : IO X x y H Q := fun value slice pins s σ v u I r1 r2 e => h value slice pins s σ H x y v u Q I r1 r2 q e
theorem sO {r} (h : SlR X r) {x : V} {lo hi : Option Int} {Q : VK} (q : r x lo hi H Q) : SO X x lo hi H Q := fun pins s σ v vl vu sl I r1 hs p1 p2 => h pins s σ H x v vl vu lo hi sl Q I r1 hs p1 p2 q
theorem sE {r : TSet} (h : PSet X r) {o i v : V} {Q : Hp → Prop} (q : r o i v H Q) : SE X o i v H Q := fun pins s σ ov iv u I r1 r2 r3 => h pins s σ H o i v ov iv u Q I r1 r2 r3 q
theorem WE.imp {e : Expr} {Q Q' : VK} (h : WE X e σ H Q) (k : ∀ v H', Q v H' → Q' v H') : WE X e σ H Q' := fun pins s I => thn (h pins s I) fun u s' ⟨v, H', J, r, q⟩ => ⟨v, H', J, r, k v H' q⟩
theorem WT.imp {e : Expr} {Q Q' : Bool → Hp → Prop} (h : WT X e σ H Q) (k : ∀ v H', Q v H' → Q' v H') : WT X e σ H Q' := fun pins s I => thn (h pins s I) fun u s' ⟨H', J, q⟩ => ⟨H', J, k _ H' q⟩
end lift

/-! ### expressions -/
section ex
variable {Z : Wd} {X : Cx} {N : List Str} {sc : Scope} {M : Msk} {G : List Str} {σ : L2.St} {H : Hp} {Q : VK} {p : Pos}
theorem we_var {x : Str} {v : V} (B : Bd Z X N sc M G) (h : At2 M σ x v) (q : Q v H) : WE X (.Name x p) σ H Q := by
  obtain ⟨i, b, h1, h2⟩ := h.ix
  obtain ⟨e1, e2, e3, e4⟩ := B.vis i x b h1
  exact wE (pe_var e1 e2 e3 e4) ⟨v, h2, q⟩
theorem we_glob {x : Str} {v : V} {u : Value} (B : Bd Z X N sc M G) (hg : x ∈ G) (hm : Z.mg x = some u) (r : RelV v u) (q : Q v H) : WE X (.Name x p) σ H Q := by
  obtain ⟨e1, e2, e3⟩ := B.gl x hg
  exact wE (pe_glob e1 (by rw [B.mg]; exact hm) r e2) q
theorem we_bltn {x : Str} {v : V} {u : Value} (B : Bd Z X N sc M G) (hg : x ∈ G) (hm : Z.mg x = none) (hv : bootBuiltins x = some u) (r : RelV v u) (q : Q v H) : WE X (.Name x p) σ H Q := by
  obtain ⟨e1, e2, e3⟩ := B.gl x hg
  exact wE (pe_bltn e1 (by rw [B.mg]; exact hm) hv r e3 e2) q
theorem we_int {i : Int} {j : Nat} (q : Q (.int i) H) : WE X (.Constant (.int i) j p) σ H Q := wE pe_int q
theorem we_bl {b : Bool} {j : Nat} (q : Q (.bl b) H) : WE X (.Constant (.bool b) j p) σ H Q := wE pe_bl q
theorem we_non {j : Nat} (q : Q .non H) : WE X (.Constant .none j p) σ H Q := wE pe_non q
theorem we_str {x : Str} {j : Nat} (q : Q (.str x) H) : WE X (.Constant (.str x) j p) σ H Q := wE pe_str q
theorem we_bin {a b : Expr} {op : Operator} (q : WE X a σ H fun x H1 => WE X b σ H1 fun y H2 => BO X (binaryOp op) x y H2 Q) : WE X (.BinOp a op b p) σ H Q :=
  wE (pe_op (oB X _) (pE X a) (pE X b)) q
theorem we_un {a : Expr} {op : UnaryOp} (q : WE X a σ H fun x H1 => UO X (unaryOp op) x H1 Q) : WE X (.UnaryOp op a p) σ H Q := wE (pe_un (oU X _) (pE X a)) q
theorem we_not {a : Expr} (q : WE X a σ H fun x H1 => ∃ c, x = .bl c ∧ Q (.bl (!c)) H1) : WE X (.UnaryOp .Not a p) σ H Q := wE (pe_not (pE X a)) q
theorem we_cmp {a b : Expr} {op : CmpOp} (q : WE X a σ H fun x H1 => WE X b σ H1 fun y H2 => BO X (compareOp op) x y H2 Q) (hm : behindInMarks op b = false := by first | with_unfolding_all exact nomark _ | with_unfolding_all rfl) : WE X (.Compare a [op] [b] p) σ H Q :=
  wE (pe_cmpR (oB X _) (pE X a) (pE X b) hm) q
theorem we_and {a b : Expr} {r : List Expr} (q : WE X a σ H fun x H1 => ∃ c, x = .bl c ∧ if c = true then WE X (.BoolOp .And (b :: r) p) σ H1 Q else Q (.bl false) H1) : WE X (.BoolOp .And (a :: b :: r) p) σ H Q :=
  wE (pe_and (pE X a) (pE X _)) q
theorem we_or {a b : Expr} {r : List Expr} (q : WE X a σ H fun x H1 => ∃ c, x = .bl c ∧ if c = true then Q (.bl true) H1 else WE X (.BoolOp .Or (b :: r) p) σ H1 Q) : WE X (.BoolOp .Or (a :: b :: r) p) σ H Q :=
  wE (pe_or (pE X a) (pE X _)) q
theorem we_one {a : Expr} {op : BoolOp} (q : WE X a σ H Q) : WE X (.BoolOp op [a] p) σ H Q := wE (pe_one (pE X a)) q
theorem we_if {c a b : Expr} (q : WT X c σ H fun k H1 => if k = true then WE X a σ H1 Q else WE X b σ H1 Q) : WE X (.IfExp c a b p) σ H Q := wE (pe_ifExp (pT X c) (pE X a) (pE X b)) q
theorem we_chain {a b c : Expr} {op op' : CmpOp} (q : WE X a σ H fun x H1 => WE X b σ H1 fun y H2 => BO X (compareOp op) x y H2 fun z H3 => ∃ k, z = .bl k ∧ if k = true then WE X c σ H3 fun w H4 => BO X (compareOp op') y w H4 Q else Q (.bl false) H3) (hm : lastMarks [op, op'] [b, c] = false := by with_unfolding_all rfl) :
    WE X (.Compare a [op, op'] [b, c] p) σ H Q := wE (pe_chain (oB X _) (oB X _) (pE X a) (pE X b) (pE X c) hm) q
theorem we_tup {es : List Expr} {j : Nat} (q : WA X es σ H fun xs H1 => xs.length ≤ sizeLine ∧ ∀ a, H1 a = none → Q (.ref a) (upd H1 a (.tup xs))) : WE X (.Tuple es j p) σ H Q := wE (pe_tup (pA X es)) q
theorem we_lst {es : List Expr} (q : WA X es σ H fun xs H1 => xs.length ≤ sizeLine ∧ ∀ a, H1 a = none → Q (.ref a) (upd H1 a (.lst xs))) : WE X (.List es p) σ H Q := wE (pe_lst (pA X es)) q
theorem wa_nil {Q : List V → Hp → Prop} (q : Q [] H) : WA X [] σ H Q := wA pa_nil q
theorem wa_cons {e : Expr} {es : List Expr} {Q : List V → Hp → Prop} (q : WE X e σ H fun x H1 => WA X es σ H1 fun xs H2 => Q (x :: xs) H2) (hs : starEach (e :: es) X.env = (false, eval e X.env) :: starEach es X.env := by with_unfolding_all rfl) : WA X (e :: es) σ H Q :=
  wA (pa_cons (pE X e) (pA X es) hs) q
theorem wk_nil {Q : List V → Hp → Prop} (q : Q [] H) : WK X [] σ H Q := wK pk_nil q
theorem wk_cons {e : Expr} {nm : Option Str} {kp : Pos} {ks : List Keyword} {Q : List V → Hp → Prop} (q : WE X e σ H fun x H1 => WK X ks σ H1 fun xs H2 => Q (x :: xs) H2) : WK X (⟨nm, e, kp⟩ :: ks) σ H Q := wK (pk_cons (pE X e) (pK X ks)) q
theorem we_ix {a b : Expr} (q : WE X a σ H fun x H1 => WE X b σ H1 fun y H2 => IO X x y H2 Q) (hs : PlainIx b := by with_unfolding_all exact fun _ _ => rfl) : WE X (.Subscript a b p) σ H Q := wE (pe_ix (oI X) (pE X a) (pE X b) hs) q
theorem we_slice {a : Expr} {lo hi : Option Expr} {p2 : Pos} (q : WE X a σ H fun x H1 => WO X lo σ H1 fun l H2 => WO X hi σ H2 fun u H3 => SO X x l u H3 Q) : WE X (.Subscript a (.Slice lo hi none p2) p) σ H Q := wE (pe_slice (oS X) (pE X a) (pO X lo) (pO X hi)) q
theorem wo_none {Q : Option Int → Hp → Prop} (q : Q none H) : WO X none σ H Q := wO po_none q
theorem wo_some {e : Expr} {Q : Option Int → Hp → Prop} (q : WE X e σ H fun x H1 => ∃ i, x = .int i ∧ Q (some i) H1) : WO X (some e) σ H Q := wO (po_some (pE X e)) q
theorem we_fld {e : Expr} {f : Str} (q : WE X e σ H fun x H1 => ∃ a C dx fs v, x = .ref a ∧ H1 a = some (.ins C dx fs) ∧ Cls X.K C ∧ NoAttr X.K C f ∧ fs.lookup f = some v ∧ Q v H1) (hb : attributeBase e f X.env (eval e X.env) = eval e X.env := by with_unfolding_all rfl) : WE X (.Attribute e f p) σ H Q :=
  wE (pe_fld (pE X e) hb) q
/-- a built-in function, a built-in type, called -/
theorem we_callB {x : Str} {id : String} {e : Expr} {es : List Expr} {pf : Pos} (B : Bd Z X N sc M G) (hg : x ∈ G) (hm : Z.mg x = none) (hv : bootBuiltins x = some (.builtin id)) (q : WA X (e :: es) σ H fun vs H1 => CO X (.builtin id) vs H1 Q)
    (he : starEach (e :: es) X.env = (false, eval e X.env) :: starEach es X.env := by with_unfolding_all rfl) (hpl : (backTo p (starEach es X.env)).any (·.1) = false := by with_unfolding_all rfl) : WE X (.Call (.Name x pf) (e :: es) [] p) σ H Q := by
  obtain ⟨e1, e2, e3⟩ := B.gl x hg
  exact wE (pe_callB (oC X _) e1 (by rw [B.mg]; exact hm) hv (pA X _) e3 e2 he hpl) q
theorem we_callTy {x : Str} {T : String} {e : Expr} {es : List Expr} {pf : Pos} (B : Bd Z X N sc M G) (hg : x ∈ G) (hm : Z.mg x = none) (hv : bootBuiltins x = some (.type T)) (q : WA X (e :: es) σ H fun vs H1 => CO X (.type T) vs H1 Q)
    (he : starEach (e :: es) X.env = (false, eval e X.env) :: starEach es X.env := by with_unfolding_all rfl) (hpl : (backTo p (starEach es X.env)).any (·.1) = false := by with_unfolding_all rfl) : WE X (.Call (.Name x pf) (e :: es) [] p) σ H Q := by
  obtain ⟨e1, e2, e3⟩ := B.gl x hg
  exact wE (pe_callTy (oC X _) e1 (by rw [B.mg]; exact hm) hv (pA X _) e3 e2 he hpl) q
/-- a method of a built-in type -/
theorem we_bm {T id : String} {name : Str} {o e : Expr} {es : List Expr} {ap : Pos} (pa : PlainAttrs T) (slot : Slot T name id) (hty : typeOf (.builtin id) = pure (.type "method_descriptor")) (q : WE X o σ H fun x H1 => tyV X.K T x H1 ∧ WA X (e :: es) σ H1 fun xs H2 => MO X id x xs H2 Q)
    (hb : attributeBase o name X.env (eval o X.env) = eval o X.env := by with_unfolding_all rfl)
    (hf : ((backTo p (starEach (e :: es) X.env)).all (fun x => !x.1) && (backToKw p (keywordEach [] X.env)).all (fun x => x.1.isSome) && decide ((e :: es).length + ([] : List Keyword).length + (if ([] : List Keyword).isEmpty then 0 else 1) < 30)) = true := by with_unfolding_all rfl)
    (hl : (ap.endLine == p.line) = true := by with_unfolding_all rfl) (hs : starEach (e :: es) X.env = (false, eval e X.env) :: starEach es X.env := by with_unfolding_all rfl) (hp : (backTo p (starEach es X.env)).any (·.1) = false := by with_unfolding_all rfl) : WE X (.Call (.Attribute o name ap) (e :: es) [] p) σ H Q :=
  wE (pe_bm pa slot hty (oM X id) (pE X o) (pA X _) hb hf hl hs hp) q
theorem we_bm0 {T id : String} {name : Str} {o : Expr} {ap : Pos} (pa : PlainAttrs T) (slot : Slot T name id) (hty : typeOf (.builtin id) = pure (.type "method_descriptor")) (q : WE X o σ H fun x H1 => tyV X.K T x H1 ∧ MO X id x [] H1 Q)
    (hb : attributeBase o name X.env (eval o X.env) = eval o X.env := by with_unfolding_all rfl) (hl : (ap.endLine == p.line) = true := by with_unfolding_all rfl) : WE X (.Call (.Attribute o name ap) [] [] p) σ H Q :=
  wE (pe_bm0 pa slot hty (oM X id) (pE X o) hb hl) q

/-! ### tests -/
variable {R : Bool → Hp → Prop}
theorem wt_cmp {a b : Expr} {op : CmpOp} (q : WE X a σ H fun x H1 => WE X b σ H1 fun y H2 => BO X (compareOp op) x y H2 fun z H3 => ∃ k, z = .bl k ∧ R k H3) (hm : behindInMarks op b = false := by first | with_unfolding_all exact nomark _ | with_unfolding_all rfl) : WT X (.Compare a [op] [b] p) σ H R :=
  wT (pt_cmpR (oB X _) (pE X a) (pE X b) hm) q
theorem wt_chain {a b c : Expr} {op op' : CmpOp} (q : WE X a σ H fun x H1 => WE X b σ H1 fun y H2 => BO X (compareOp op) x y H2 fun z H3 => ∃ k, z = .bl k ∧ if k = true then WE X c σ H3 fun w H4 => BO X (compareOp op') y w H4 fun z' H5 => ∃ k', z' = .bl k' ∧ R k' H5 else ∃ k', V.bl false = .bl k' ∧ R k' H3) (hm : lastMarks [op, op'] [b, c] = false := by with_unfolding_all rfl) :
    WT X (.Compare a [op, op'] [b, c] p) σ H R := wT (pt_chain (oB X _) (oB X _) (pE X a) (pE X b) (pE X c) hm) q
theorem wt_not {a : Expr} (q : WT X a σ H fun c H1 => R (!c) H1) : WT X (.UnaryOp .Not a p) σ H R := wT (pt_not (pT X a)) q
theorem wt_bool {op : BoolOp} {es : List Expr} (q : WW X (.BoolOp op es p) σ H R) : WT X (.BoolOp op es p) σ H R := wT (pW X _).pt q
theorem ww_and1 {a : Expr} (q : WT X a σ H R) : WW X (.BoolOp .And [a] p) σ H R := wW (pw_and1 (pT X a)) q
theorem ww_or1 {a : Expr} (q : WT X a σ H R) : WW X (.BoolOp .Or [a] p) σ H R := wW (pw_or1 (pT X a)) q
theorem ww_and {a b : Expr} {r : List Expr} (q : WT X a σ H fun c H1 => if c = true then WW X (.BoolOp .And (b :: r) p) σ H1 R else R false H1) : WW X (.BoolOp .And (a :: b :: r) p) σ H R := wW (pw_and (pT X a) (pW X _)) q
theorem ww_or {a b : Expr} {r : List Expr} (q : WT X a σ H fun c H1 => if c = true then R true H1 else WW X (.BoolOp .Or (b :: r) p) σ H1 R) : WW X (.BoolOp .Or (a :: b :: r) p) σ H R := wW (pw_or (pT X a) (pW X _)) q
theorem wt_val {e : Expr} (q : WE X e σ H fun x H1 => ∃ c, x = .bl c ∧ R c H1) (he : ∀ whole, isTrue e X.env whole = (do let v ← whole; standAt e.pos; holding [v] (truthy v)) := by intro _; with_unfolding_all rfl) : WT X e σ H R := wT (pt_val (pE X e) he) q
theorem wt_truth {e : Expr} (q : WE X e σ H fun x H1 => ∃ k, TruV X.K x H1 k ∧ R k H1) (he : ∀ whole, isTrue e X.env whole = (do let v ← whole; standAt e.pos; holding [v] (truthy v)) := by intro _; with_unfolding_all rfl) : WT X e σ H R := wT (pt_truth (pE X e) he) q
end ex
end Y

namespace Y
open PySem PySem.Spec PyProof.Rows L2
/-! ### statements -/
section st
variable {Z : Wd} {X : Cx} {N : List Str} {sc : Scope} {M : Msk} {G : List Str} {σ : L2.St} {H : Hp} {D : Ends} {p : Pos}
theorem wss_nil (q : D.nx σ H) : WSs X [] D σ H := wSs pss_nil q
theorem wss_cons {st : Stmt} {r : List Stmt} (q : WS X st { D with nx := fun σ' H' => WSs X r D σ' H' } σ H) : WSs X (st :: r) D σ H := wSs (pss_cons (pS X st) (pSs X r)) q
theorem wss_one {st : Stmt} (q : WS X st D σ H) : WSs X [st] D σ H := wSs (pss_one (pS X st)) q
theorem ws_pass (q : D.nx σ H) : WS X (.Pass p) D σ H := wS ps_pass q
theorem ws_break (q : D.bk σ H) : WS X (.Break p) D σ H := wS ps_break q
theorem ws_cont (q : D.ct σ H) : WS X (.Continue p) D σ H := wS ps_continue q
theorem ws_doc {x : Str} {j : Nat} {p' : Pos} (q : D.nx σ H) : WS X (.Expr (.Constant (.str x) j p) p') D σ H := wS ps_doc q
theorem ws_expr {e : Expr} (q : WE X e σ H fun _ H1 => D.nx σ H1) (hs : swapsWith e none p.line X.env = pure false := by with_unfolding_all rfl) : WS X (.Expr e p) D σ H := wS (ps_expr (pE X e) hs) q
theorem ws_ret {e : Expr} (q : WE X e σ H D.rt) : WS X (.Return (some e) p) D σ H := wS (ps_ret (pE X e)) q
theorem ws_retN (q : D.rt .non H) : WS X (.Return none p) D σ H := wS ps_retN q
theorem ws_if {c : Expr} {a b : List Stmt} (q : WT X c σ H fun k H1 => if k = true then WSs X a D σ H1 else WSs X b D σ H1) : WS X (.If c a b p) D σ H := wS (ps_if (pT X c) (pSs X a) (pSs X b)) q
theorem ws_set {x : Str} {e : Expr} {p' : Pos} (B : Bd Z X N sc M G) (q : WE X e σ H fun v H1 => ∃ σ', Up2 M σ x v σ' ∧ D.nx σ' H1) (hs : swapsWith e (some (.Name x p')) p.line X.env = pure false := by with_unfolding_all rfl) : WS X (.Assign [.Name x p'] e p) D σ H := by
  intro pins s I
  refine wpAny_Assign_Name (thn (q pins s I) fun v s1 ⟨y, H1, I1, r1, σ', hu, q1⟩ => ?_) hs
  obtain ⟨i, hM, e1⟩ := hu.ix
  obtain ⟨e2, _⟩ := B.vis i x true hM
  obtain ⟨l1, l2⟩ := B.loc i x hM
  subst e1
  exact store_ok I1 B.nd e2 l1 r1 (fun s2 I2 => ⟨_, H1, I2, q1⟩) l2
theorem wg_name {x : Str} {v : V} {Q : L2.St → Hp → Prop} {σ' : L2.St} (B : Bd Z X N sc M G) (h : Up2 M σ x v σ') (q : Q σ' H) : WG X (.Name x p) v σ H Q := by
  obtain ⟨i, hM, e1⟩ := h.ix
  obtain ⟨e2, _⟩ := B.vis i x true hM
  obtain ⟨l1, l2⟩ := B.loc i x hM
  subst e1
  exact wG (pg_name B.nd e2 l1 l2) q
theorem wgs_nil {Q : L2.St → Hp → Prop} (q : Q σ H) : WGs X [] [] σ H Q := wGs pgs_nil ⟨rfl, q⟩
theorem wgs_cons {e : Expr} {es : List Expr} {v : V} {vs : List V} {Q : L2.St → Hp → Prop} (q : WG X e v σ H fun σ1 H1 => WGs X es vs σ1 H1 Q) (hs : (assignEach (e :: es) X.env).map (·.2) = assign e X.env :: (assignEach es X.env).map (·.2) := by with_unfolding_all rfl) :
    WGs X (e :: es) (v :: vs) σ H Q := wGs (pgs_cons (pG X e) (pGs X es) hs) ⟨v, vs, rfl, q⟩
theorem wg_tup {es : List Expr} {k : Nat} {a : Addr} {xs : List V} {Q : L2.St → Hp → Prop} (B : Bd Z X N sc M G) (hq : SqT X.K H a xs) (q : WGs X es xs σ H Q) (hl : xs.length = (assignEach es X.env).length := by with_unfolding_all rfl) (hst : (assignEach es X.env).findIdx? (·.1) = none := by with_unfolding_all rfl) :
    WG X (.Tuple es k p) (.ref a) σ H Q := wG (pg_tup B.calm (pGs X es) rfl hst) ⟨a, xs, rfl, hq, hl, q⟩
theorem wg_sub {o i : Expr} {v : V} {Q : L2.St → Hp → Prop} (q : WE X o σ H fun ov H1 => WE X i σ H1 fun iv H2 => SE X ov iv v H2 fun H3 => Q σ H3)
    (ha : ∀ v, assign (.Subscript o i p) X.env v = (do
      let ov ← holding [v] (eval o X.env)
      let iv ← holding [v, ov] (eval i X.env)
      standAt p
      holding [v, ov, iv] (setItem ov iv v)
      release [v, ov, iv] []) := by intro _; with_unfolding_all rfl) : WG X (.Subscript o i p) v σ H Q := wG (pg_sub (pE X o) (pE X i) (oE X) ha) q
theorem ws_asg {tg e : Expr} (q : WE X e σ H fun x H1 => WG X tg x σ H1 D.nx) (hs : swapsWithSole [tg] e p.line X.env = pure false := by with_unfolding_all rfl) (hw : swappedStores [tg] e X.env = pure none := by with_unfolding_all rfl)
    (h1 : (assignEach [tg] X.env).map (·.2) = [assign tg X.env] := by with_unfolding_all rfl) : WS X (.Assign [tg] e p) D σ H := wS (ps_asg (pE X e) (pG X tg) hs hw h1) q
/-- a, b = x, y; two plain locals -/
theorem ws_par {x y : Str} {a b : Expr} {px py pt pt2 : Pos} {kt k2 : Nat} (B : Bd Z X N sc M G)
    (hx : X.env.scope.names.lookup x = some .local) (hy : X.env.scope.names.lookup y = some .local) (q : WA X [a, b] σ H fun vs H1 => ∃ v w σ1 σ2, vs = [v, w] ∧ x ≠ y ∧ Up2 M σ x v σ1 ∧ Up2 M σ1 y w σ2 ∧ D.nx σ2 H1)
    (hw : swappedStores [.Tuple [.Name x px, .Name y py] kt pt] (.Tuple [a, b] k2 pt2) X.env = pure (some [x, y]))
    (hs : swapsWithSole [.Tuple [.Name x px, .Name y py] kt pt] (.Tuple [a, b] k2 pt2) p.line X.env = pure false := by with_unfolding_all rfl) :
    (∃ i j : Nat, i ≠ j ∧ M[i]? = some (some (x, true)) ∧ M[j]? = some (some (y, true))) → WS X (.Assign [.Tuple [.Name x px, .Name y py] kt pt] (.Tuple [a, b] k2 pt2) p) D σ H := by
  rintro ⟨i, j, hij, hi, hj⟩
  obtain ⟨e2, _⟩ := B.vis i x true hi
  obtain ⟨f2, _⟩ := B.vis j y true hj
  refine wS (ps_par (i := i) (j := j) B.calm B.nd e2 f2 hij hx hy (pA X [a, b]) hw hs) ?_
  intro pos pins s I
  refine thn (q pos pins s I) fun us s1 ⟨vs, H1, I1, r, v, w, σ1, σ2, ev, hne, u1, u2, q1⟩ => ⟨vs, H1, I1, r, v, w, ev, ?_⟩
  obtain ⟨i', hi', d1⟩ := u1.ix
  obtain ⟨j', hj', d2⟩ := u2.ix
  obtain ⟨g1, _⟩ := B.vis i' x true hi'
  obtain ⟨g2, _⟩ := B.vis j' y true hj'
  have a1 := nodup_ix B.nd e2 g1
  have a2 := nodup_ix B.nd f2 g2
  subst a1 a2 d1 d2
  exact q1
theorem ws_fld {o e : Expr} {f : Str} {p' : Pos} (q : WE X e σ H fun y H1 => WE X o σ H1 fun x H2 => ∃ a C dx fs, x = .ref a ∧ H2 a = some (.ins C dx fs) ∧ Cls X.K C ∧ NoAttr X.K C f ∧ fs.length < 1000 ∧ D.nx σ (upd H2 a (.ins C dx (putF f y fs))))
    (hs : swapsWith e (some (.Attribute o f p')) p.line X.env = pure false := by with_unfolding_all rfl) : WS X (.Assign [.Attribute o f p'] e p) D σ H := wS (ps_fld (pE X o) (pE X e) hs) q
theorem ws_fldaug {o e : Expr} {f : Str} {op : Operator} {p' : Pos} (q : WE X o σ H fun x H1 => ∃ a C dx fs v, x = .ref a ∧ H1 a = some (.ins C dx fs) ∧ Cls X.K C ∧ NoAttr X.K C f ∧ fs.lookup f = some v ∧
    WE X e σ H1 fun y H2 => BO X (inplaceOp op) v y H2 fun z H3 => ∃ dx' fs', H3 a = some (.ins C dx' fs') ∧ fs'.length < 1000 ∧ D.nx σ (upd H3 a (.ins C dx' (putF f z fs')))) : WS X (.AugAssign (.Attribute o f p') op e p) D σ H :=
  wS (ps_fldaug (pE X o) (pE X e) (rd := BO X (inplaceOp op)) (fun pins s σ _ _ _ u v _ I r1 r2 h => h pins s σ u v I r1 r2)) q
theorem ws_aug {x : Str} {e : Expr} {op : Operator} {p' : Pos} {v : V} {f : V → L2.St} (B : Bd Z X N sc M G) (h : At2 M σ x v) (hu : ∀ z, Up2 M σ x z (f z)) (q : WE X e σ H fun y H1 => BO X (inplaceOp op) v y H1 fun z H2 => D.nx (f z) H2) : WS X (.AugAssign (.Name x p') op e p) D σ H := by
  obtain ⟨i, b, h1, h2⟩ := h.ix
  obtain ⟨e1, e2, e3, e4⟩ := B.vis i x b h1
  obtain ⟨i', hM, _⟩ := (hu v).ix
  obtain ⟨e1', _⟩ := B.vis i' x true hM
  obtain ⟨l1, l2⟩ := B.loc i' x hM
  have hi := nodup_ix B.nd e1 e1'
  subst hi
  have hf : ∀ z, f z = σ.set i (some z) := fun z => by
    obtain ⟨j, hj, e⟩ := (hu z).ix
    obtain ⟨g, _⟩ := B.vis j x true hj
    have := nodup_ix B.nd e1 g
    subst this
    exact e
  refine wS (ps_aug (i := i) B.nd e1 l1 (pE X e) (ti := fun x y H Q => BO X (inplaceOp op) x y H Q) (fun pins s σ _ _ _ v u _ I r1 r2 h => h pins s σ v u I r1 r2) l2) ⟨v, h2, ?_⟩
  have e9 : (fun (z : V) (H2 : Hp) => D.nx (f z) H2) = (fun z H2 => D.nx (σ.set i (some z)) H2) := by funext z H2; rw [hf]
  rw [e9] at q
  exact q
end st
/-! ### loops -/
section lp
variable {Z : Wd} {X : Cx} {N : List Str} {sc : Scope} {M : Msk} {G : List Str} {σ : L2.St} {H : Hp} {D : Ends} {p : Pos} {tg iter : Expr} {body : List Stmt}
def FI (X : Cx) (J : It) (tg : Expr) (body : List Stmt) (D : Ends) (σ : L2.St) (H : Hp) : Prop := ∃ W : Nat → Nat → L2.St → Hp → Prop, (∃ m, W 0 m σ H) ∧ ∀ i m σ H, W i m σ H →
  (J.stop i H ∧ D.nx σ H) ∨ (J.go i H ∧ ∃ N : L2.St → Hp → Prop, (∀ σ' H', N σ' H' → ∃ m', m' < m ∧ W (i + 1) m' σ' H') ∧ ∀ x H', J.yld i H x H' → WG X tg x σ H' fun σ2 H2 => WSs X body { D with nx := N, ct := N, bk := D.nx } σ2 H2)
theorem ws_for (B : Bd Z X N sc M G) (po : PassesOwn (model X.prog X.w) X.A X.env X.xe) (q : WI X tg iter σ H fun J H1 => FI X J tg body D σ H1) (hs : ∀ x, foldedSetIterable iter X.env x = pure x := by intro _; with_unfolding_all rfl) : WS X (.For tg iter body [] p) D σ H :=
  wS (ps_for po B.calm (pI X tg iter) (pG X tg) (pSs X body) hs) q
/-- what is walked -/
theorem wi_list {R : It → Hp → Prop} (q : WE X iter σ H fun v H1 => ∃ a, v = .ref a ∧ (∃ xs, SqL X.K H1 a xs) ∧ R (Itl X.K a) H1) : WI X tg iter σ H R := wI (pi_list (pE X iter)) q
theorem wi_tup {R : It → Hp → Prop} (q : WE X iter σ H fun v H1 => ∃ a, v = .ref a ∧ (∃ xs, SqT X.K H1 a xs) ∧ R (Itt X.K a) H1) : WI X tg iter σ H R := wI (pi_tup (pE X iter)) q
theorem wi_range1 {a : Expr} {pf pc : Pos} {R : It → Hp → Prop} (B : Bd Z X N sc M G) (hg : ("range" : Str) ∈ G) (hm : Z.mg "range" = none) (q : WE X a σ H fun v H1 => ∃ j : Int, v = .int j ∧ -(2 ^ 62) ≤ j ∧ j < 2 ^ 62 ∧ R (Itr 0 j.toNat) H1)
    (hs : starEach [a] X.env = [(false, eval a X.env)] := by with_unfolding_all rfl) : WI X tg (.Call (.Name "range" pf) [a] [] pc) σ H R := by
  obtain ⟨e1, e2, e3⟩ := B.gl _ hg
  refine wI (pi_range1 e1 (by rw [B.mg]; exact hm) (pA X [a]) hs) ?_
  exact wa_cons (q.imp fun v H1 ⟨j, ev, h1, h2, r⟩ => wa_nil ⟨j, by rw [ev], h1, h2, r⟩) hs
theorem wi_range2 {a b : Expr} {pf pc : Pos} {R : It → Hp → Prop} (B : Bd Z X N sc M G) (hg : ("range" : Str) ∈ G) (hm : Z.mg "range" = none)
    (q : WE X a σ H fun v H1 => WE X b σ H1 fun w H2 => ∃ i j : Int, v = .int i ∧ w = .int j ∧ (-(2 ^ 62) ≤ i ∧ i < 2 ^ 62 ∧ -(2 ^ 62) ≤ j ∧ j < 2 ^ 62) ∧ R (Itr i (j - i).toNat) H2)
    (hs : starEach [a, b] X.env = [(false, eval a X.env), (false, eval b X.env)] := by with_unfolding_all rfl) (hs2 : starEach [b] X.env = [(false, eval b X.env)] := by with_unfolding_all rfl) : WI X tg (.Call (.Name "range" pf) [a, b] [] pc) σ H R := by
  obtain ⟨e1, e2, e3⟩ := B.gl _ hg
  refine wI (pi_range2 e1 (by rw [B.mg]; exact hm) (pA X [a, b]) hs hs2) ?_
  refine wa_cons (q.imp fun v H1 q1 => wa_cons (q1.imp fun w H2 ⟨i, j, ev, ew, h, r⟩ => wa_nil ⟨i, j, by rw [ev, ew], h, r⟩) hs2) ?_
  rw [hs, hs2]
theorem wi_enum {e : Expr} {pf pc tp : Pos} {elts : List Expr} {kk : Nat} {R : It → Hp → Prop} (B : Bd Z X N sc M G) (hg : ("enumerate" : Str) ∈ G) (hm : Z.mg "enumerate" = none)
    (q : WE X e σ H fun v H1 => ∃ a xs, v = .ref a ∧ SqL X.K H1 a xs ∧ R (Ite X.K a) H1) (hs : starEach [e] X.env = [(false, eval e X.env)] := by with_unfolding_all rfl) : WI X (.Tuple elts kk tp) (.Call (.Name "enumerate" pf) [e] [] pc) σ H R := by
  obtain ⟨e1, e2, e3⟩ := B.gl _ hg
  refine wI (pi_enum e1 (by rw [B.mg]; exact hm) (pA X [e]) hs) ?_
  exact wa_cons (q.imp fun v H1 ⟨a, xs, ev, h, r⟩ => wa_nil ⟨a, xs, by rw [ev], h, r⟩) hs
theorem wi_zip {e e2 : Expr} {pf pc tp : Pos} {elts : List Expr} {kk : Nat} {R : It → Hp → Prop} (B : Bd Z X N sc M G) (hg : ("zip" : Str) ∈ G) (hm : Z.mg "zip" = none)
    (q : WE X e σ H fun v H1 => WE X e2 σ H1 fun w H2 => ∃ a b xs ys, v = .ref a ∧ w = .ref b ∧ SqL X.K H2 a xs ∧ SqL X.K H2 b ys ∧ R (Itz X.K a b) H2)
    (hs : starEach [e, e2] X.env = (false, eval e X.env) :: starEach [e2] X.env := by with_unfolding_all rfl) (hs2 : starEach [e2] X.env = [(false, eval e2 X.env)] := by with_unfolding_all rfl) (hpl : (backTo pc (starEach [e2] X.env)).any (·.1) = false := by with_unfolding_all rfl) :
    WI X (.Tuple elts kk tp) (.Call (.Name "zip" pf) [e, e2] [] pc) σ H R := by
  obtain ⟨e1, _, _⟩ := B.gl _ hg
  refine wI (pi_zip e1 (by rw [B.mg]; exact hm) (pA X [e, e2]) hs hpl) ?_
  exact wa_cons (q.imp fun v H1 q1 => wa_cons (q1.imp fun w H2 ⟨a, b, xs, ys, ev, ew, h1, h2, r⟩ => wa_nil ⟨a, b, xs, ys, by rw [ev, ew], h1, h2, r⟩) hs2) hs
/-- the walks by what is left -/
theorem fi_list {a : Addr} {xs : List V} (Pv : List V → L2.St → Hp → Prop) (h0 : Pv xs σ H) (hl : ∀ r σ H, Pv r σ H → SqL X.K H a xs)
    (hs : ∀ x r σ H, Pv (x :: r) σ H → WG X tg x σ H fun σ2 H2 => WSs X body { D with nx := Pv r, ct := Pv r, bk := D.nx } σ2 H2) (hd : ∀ σ H, Pv [] σ H → D.nx σ H) : FI X (Itl X.K a) tg body D σ H := by
  refine ⟨fun i m σ H => m = xs.length - i ∧ i ≤ xs.length ∧ Pv (xs.drop i) σ H, ⟨xs.length, rfl, Nat.zero_le _, h0⟩, ?_⟩
  rintro i m σ H ⟨rfl, hi, pv⟩
  have q := hl _ σ H pv
  by_cases hlt : i < xs.length
  · refine .inr ⟨⟨xs, xs[i], q, by simp [hlt]⟩, Pv (xs.drop (i + 1)), fun σ' H' p' => ⟨xs.length - (i + 1), by omega, rfl, hlt, p'⟩, fun x H' y => ?_⟩
    obtain ⟨rfl, y⟩ := y
    have hx := y xs q
    rw [List.getElem?_eq_getElem hlt] at hx
    cases hx
    rw [List.drop_eq_getElem_cons hlt] at pv
    exact hs _ _ σ _ pv
  · have e : i = xs.length := by omega
    subst e
    rw [List.drop_length] at pv
    exact .inl ⟨⟨xs, q, Nat.le_refl _⟩, hd σ H pv⟩
theorem fi_tup {a : Addr} {xs : List V} (Pv : List V → L2.St → Hp → Prop) (h0 : Pv xs σ H) (hl : ∀ r σ H, Pv r σ H → SqT X.K H a xs)
    (hs : ∀ x r σ H, Pv (x :: r) σ H → WG X tg x σ H fun σ2 H2 => WSs X body { D with nx := Pv r, ct := Pv r, bk := D.nx } σ2 H2) (hd : ∀ σ H, Pv [] σ H → D.nx σ H) : FI X (Itt X.K a) tg body D σ H := by
  refine ⟨fun i m σ H => m = xs.length - i ∧ i ≤ xs.length ∧ Pv (xs.drop i) σ H, ⟨xs.length, rfl, Nat.zero_le _, h0⟩, ?_⟩
  rintro i m σ H ⟨rfl, hi, pv⟩
  have q := hl _ σ H pv
  by_cases hlt : i < xs.length
  · refine .inr ⟨⟨xs, xs[i], q, by simp [hlt]⟩, Pv (xs.drop (i + 1)), fun σ' H' p' => ⟨xs.length - (i + 1), by omega, rfl, hlt, p'⟩, fun x H' y => ?_⟩
    obtain ⟨rfl, y⟩ := y
    have hx := y xs q
    rw [List.getElem?_eq_getElem hlt] at hx
    cases hx
    rw [List.drop_eq_getElem_cons hlt] at pv
    exact hs _ _ σ _ pv
  · have e : i = xs.length := by omega
    subst e
    rw [List.drop_length] at pv
    exact .inl ⟨⟨xs, q, Nat.le_refl _⟩, hd σ H pv⟩
theorem fi_range {lo : Int} {n : Nat} (Pv : Nat → L2.St → Hp → Prop) (h0 : Pv 0 σ H)
    (hs : ∀ i σ H, i < n → Pv i σ H → WG X tg (.int (lo + (i : Nat))) σ H fun σ2 H2 => WSs X body { D with nx := Pv (i + 1), ct := Pv (i + 1), bk := D.nx } σ2 H2) (hd : ∀ σ H, Pv n σ H → D.nx σ H) : FI X (Itr lo n) tg body D σ H := by
  refine ⟨fun i m σ H => m = n - i ∧ i ≤ n ∧ Pv i σ H, ⟨n, rfl, Nat.zero_le _, h0⟩, ?_⟩
  rintro i m σ H ⟨rfl, hi, pv⟩
  by_cases hlt : i < n
  · refine .inr ⟨hlt, Pv (i + 1), fun σ' H' p' => ⟨n - (i + 1), by omega, rfl, hlt, p'⟩, fun x H' y => ?_⟩
    obtain ⟨rfl, rfl⟩ := y
    exact hs i σ _ hlt pv
  · have e : i = n := by omega
    subst e
    exact .inl ⟨Nat.le_refl _, hd σ H pv⟩
theorem fi_enum {a : Addr} {xs : List V} (Pv : Nat → List V → L2.St → Hp → Prop) (h0 : Pv 0 xs σ H) (hl : ∀ i r σ H, Pv i r σ H → SqL X.K H a xs)
    (hs : ∀ i x r σ H T, Pv i (x :: r) σ H → H T = none → WG X tg (.ref T) σ (upd H T (.tup [.int (i : Nat), x])) fun σ2 H2 => WSs X body { D with nx := Pv (i + 1) r, ct := Pv (i + 1) r, bk := D.nx } σ2 H2)
    (hd : ∀ i σ H, Pv i [] σ H → D.nx σ H) : FI X (Ite X.K a) tg body D σ H := by
  refine ⟨fun i m σ H => m = xs.length - i ∧ i ≤ xs.length ∧ Pv i (xs.drop i) σ H, ⟨xs.length, rfl, Nat.zero_le _, h0⟩, ?_⟩
  rintro i m σ H ⟨rfl, hi, pv⟩
  have q := hl _ _ σ H pv
  by_cases hlt : i < xs.length
  · refine .inr ⟨⟨xs, xs[i], q, by simp [hlt]⟩, Pv (i + 1) (xs.drop (i + 1)), fun σ' H' p' => ⟨xs.length - (i + 1), by omega, rfl, hlt, p'⟩, fun x H' y => ?_⟩
    obtain ⟨T, x', rfl, hT, rfl, y⟩ := y
    have hx := y xs q
    rw [List.getElem?_eq_getElem hlt] at hx
    cases hx
    rw [List.drop_eq_getElem_cons hlt] at pv
    exact hs i _ _ σ _ T pv hT
  · have e : i = xs.length := by omega
    subst e
    rw [List.drop_length] at pv
    exact .inl ⟨⟨xs, q, Nat.le_refl _⟩, hd _ σ H pv⟩
theorem fi_zip {a b : Addr} {xs ys : List V} (Pv : List V → List V → L2.St → Hp → Prop) (h0 : Pv xs ys σ H) (hl : ∀ r s σ H, Pv r s σ H → SqL X.K H a xs ∧ SqL X.K H b ys)
    (hs : ∀ x r y s σ H T, Pv (x :: r) (y :: s) σ H → H T = none → WG X tg (.ref T) σ (upd H T (.tup [x, y])) fun σ2 H2 => WSs X body { D with nx := Pv r s, ct := Pv r s, bk := D.nx } σ2 H2)
    (hd : ∀ r s σ H, (r = [] ∨ s = []) → Pv r s σ H → D.nx σ H) : FI X (Itz X.K a b) tg body D σ H := by
  refine ⟨fun i m σ H => m = xs.length - i ∧ i ≤ xs.length ∧ i ≤ ys.length ∧ Pv (xs.drop i) (ys.drop i) σ H, ⟨xs.length, rfl, Nat.zero_le _, Nat.zero_le _, h0⟩, ?_⟩
  rintro i m σ H ⟨rfl, hi, hi2, pv⟩
  obtain ⟨q1, q2⟩ := hl _ _ σ H pv
  by_cases hlt : i < xs.length ∧ i < ys.length
  · obtain ⟨h1, h2⟩ := hlt
    refine .inr ⟨⟨xs, ys, xs[i], ys[i], q1, q2, by simp [h1], by simp [h2]⟩, Pv (xs.drop (i + 1)) (ys.drop (i + 1)), fun σ' H' p' => ⟨xs.length - (i + 1), by omega, rfl, h1, h2, p'⟩, fun x H' y => ?_⟩
    obtain ⟨T, x', y', rfl, hT, rfl, f1, f2⟩ := y
    have hx := f1 xs q1
    have hy := f2 ys q2
    rw [List.getElem?_eq_getElem h1] at hx
    rw [List.getElem?_eq_getElem h2] at hy
    cases hx
    cases hy
    rw [List.drop_eq_getElem_cons h1, List.drop_eq_getElem_cons h2] at pv
    exact hs _ _ _ _ σ _ T pv hT
  · have e : xs.length ≤ i ∨ ys.length ≤ i := by omega
    refine .inl ⟨⟨xs, ys, q1, q2, e⟩, hd _ _ σ H ?_ pv⟩
    rcases e with e | e
    · exact .inl (List.drop_eq_nil_of_le e)
    · exact .inr (List.drop_eq_nil_of_le e)
/-- while: W by a measure -/
theorem ws_while {c : Expr} (po : PassesOwn (model X.prog X.w) X.A X.env X.xe) (W : Nat → L2.St → Hp → Prop) {m0 : Nat} (h0 : W m0 σ H)
    (hs : ∀ m σ H, W m σ H → WT X c σ H fun b H1 => if b = true then WSs X body { D with nx := fun σ' H' => ∃ m', m' < m ∧ W m' σ' H', ct := fun σ' H' => ∃ m', m' < m ∧ W m' σ' H', bk := D.nx } σ H1 else D.nx σ H1) : WS X (.While c body [] p) D σ H := by
  refine wS (ps_while po (pT X c) (pSs X body)) ⟨W, ⟨m0, h0⟩, fun m σ H w => (hs m σ H w).imp fun b H1 q => ?_⟩
  cases b with
  | true => exact ⟨fun σ' H' => ∃ m', m' < m ∧ W m' σ' H', fun _ _ n => n, q⟩
  | false => exact q
end lp
end Y

namespace Y
open PySem PySem.Spec PyProof.Rows L2
/-! ### comprehensions -/
/-- the context of a comprehension's block -/
def Blk (X : Cx) (scope : Scope) (X' : Cx) : Prop := ∃ (s : Shared) (H : Hp) (C : Addr) (cl : List (Str × Addr)) (fp : List Addr), X' = X.blk s H scope (compEnvC scope cl C X.env) fp
section cp
variable {Z : Wd} {X X' : Cx} {N : List Str} {sc scope : Scope} {M M' : Msk} {G G' : List Str} {σ : L2.St} {H : Hp} {p : Pos} {tg iter elt : Expr} {ifs : List Expr} {Q : VK} {vs : List Nat}
theorem Bd.blk (B : Bd Z X N sc M G) (hb : Blk X scope X') (h : (okM (relS scope sc) N M' && okG (relS scope sc) G' && okS scope M') = true) : Bd Z X' N (relS scope sc) M' G' := by
  obtain ⟨s, H, C, cl, fp, rfl⟩ := hb
  rw [Bool.and_eq_true, Bool.and_eq_true] at h
  refine ⟨B.prog, B.w, B.K, B.mg, B.base, B.hN, by rw [← B.hsc]; rfl, h.1.1, h.1.2, fun i x hx => ?_, B.nd, B.calm, B.gd⟩
  rcases okS_at h.2 hx with e | e
  · exact .inr (lookup_relS_keep (sc := X.env.scope) (by decide) e)
  · refine .inl ?_
    show (scope.names.lookup x == some .cell) = true
    rw [e]; rfl
theorem Blk.A (hb : Blk X scope X') : X'.A = X.A := by obtain ⟨s, H, C, cl, fp, rfl⟩ := hb; rfl
theorem Blk.K (hb : Blk X scope X') : X'.K = X.K := by obtain ⟨s, H, C, cl, fp, rfl⟩ := hb; rfl
/-- one block's walk -/
def LI (X : Cx) (scope : Scope) (J : It) (tg elt : Expr) (ifs : List Expr) (vs : List Nat) (σ : L2.St) (H1 : Hp) (Q : VK) : Prop := ∀ D, H1 D = none → ∃ W : Nat → Nat → Hp → Prop, (∃ m, W 0 m (upd H1 D (.lst []))) ∧ ∀ i m H, W i m H →
  (J.stop i H ∧ Q (.ref D) H) ∨ (J.go i H ∧ ∃ Nx : Hp → Prop, (∀ H', Nx H' → ∃ m', m' < m ∧ W (i + 1) m' H') ∧ ∀ x H', J.yld i H x H' → ∀ X', Blk X scope X' → WG X' tg x (wipe σ vs) H' fun σ2 H2 => wipe σ2 vs = wipe σ vs ∧ ∀ X', Blk X scope X' → WTs X' ifs σ2 H2 fun b H3 =>
    if b = true then ∀ X', Blk X scope X' → WE X' elt σ2 H3 fun y H4 => ∃ acc, H4 D = some (.lst acc) ∧ acc.length < sizeLine ∧ Nx (upd H4 D (.lst (acc ++ [y]))) else Nx H3)
theorem blk_ok {own : List (Str × Nat)} (B : Bd Z X N sc M G) (ok : blkC N sc scope own = true) : BlkOk X.N X.env.scope scope own := by
  rw [B.hN, B.hsc]
  exact blkOk_by ok
theorem we_lc {own : List (Str × Nat)} (B : Bd Z X N sc M G) (ok : blkC N sc scope own = true) (q : WI X tg iter σ H fun J H1 => LI X scope J tg elt ifs (own.map (·.2)) σ H1 Q) (hs : ∀ x, foldedSetIterable iter X.env x = pure x := by intro _; with_unfolding_all rfl) :
    WE X (.ListComp elt [⟨tg, iter, ifs, 0⟩] scope p) σ H Q :=
  wE (pe_lc (own := own) B.calm B.nd (pI X tg iter) (blk_ok B ok) (g := fun x σ H Q => ∀ X', Blk X scope X' → WG X' tg x σ H Q) (tt := fun σ H Q => ∀ X', Blk X scope X' → WTs X' ifs σ H Q) (te := fun σ H Q => ∀ X', Blk X scope X' → WE X' elt σ H Q)
    (fun s H C cl fp => ⟨fun pins s' σ H v u Q I r h => (pG _ tg).run pins s' σ H v u Q I r (h _ ⟨s, _, C, cl, fp, rfl⟩)⟩)
    (fun s H C cl fp => ⟨fun pins s' σ H Q I h => (pTs _ ifs).run pins s' σ H Q I (h _ ⟨s, _, C, cl, fp, rfl⟩)⟩)
    (fun s H C cl fp => ⟨fun pins s' σ H Q I h => (pE _ elt).run pins s' σ H Q I (h _ ⟨s, _, C, cl, fp, rfl⟩)⟩) hs) q
/-- y = [..] -/
theorem ws_setLc {own : List (Str × Nat)} {y : Str} {py pl : Pos} {D : Ends} {f : V → L2.St} (B : Bd Z X N sc M G) (ok : blkC N sc scope own = true) (hy : sc.names.lookup y = some .local) (hl : (py.line == pl.line) = true) (ha : (scope.names.any fun (n, k) => n == y && (k == .local || k == .cell)) = false)
    (hu : ∀ z, Up2 M σ y z (f z)) (q : WI X tg iter σ H fun J H1 => LI X scope J tg elt ifs (own.map (·.2)) σ H1 fun v H2 => D.nx (f v) H2) (hs : ∀ x, foldedSetIterable iter X.env x = pure x := by intro _; with_unfolding_all rfl) (hk : sc.kind = .function := by with_unfolding_all rfl) :
    WS X (.Assign [.Name y py] (.ListComp elt [⟨tg, iter, ifs, 0⟩] scope pl) p) D σ H := by
  obtain ⟨i, hi, _⟩ := (hu .non).ix
  obtain ⟨hN, _⟩ := B.vis i y true hi
  have hf : ∀ z, f z = σ.set i (some z) := fun z => by
    obtain ⟨j, hj, e⟩ := (hu z).ix
    obtain ⟨g, _⟩ := B.vis j y true hj
    have := nodup_ix B.nd hN g
    subst this
    exact e
  have hyl : X.env.scope.names.lookup y = some .local := by rw [B.hsc]; exact hy
  have hkk : X.env.scope.kind = .function := by rw [B.hsc]; exact hk
  refine wS (ps_setLc (own := own) (i := i) B.calm B.nd hN hyl (sw_true hkk hyl hl ha) (pI X tg iter) (blk_ok B ok) (g := fun x σ H Q => ∀ X', Blk X scope X' → WG X' tg x σ H Q) (tt := fun σ H Q => ∀ X', Blk X scope X' → WTs X' ifs σ H Q) (te := fun σ H Q => ∀ X', Blk X scope X' → WE X' elt σ H Q)
    (fun s H C cl fp => ⟨fun pins s' σ H v u Q I r h => (pG _ tg).run pins s' σ H v u Q I r (h _ ⟨s, _, C, cl, fp, rfl⟩)⟩)
    (fun s H C cl fp => ⟨fun pins s' σ H Q I h => (pTs _ ifs).run pins s' σ H Q I (h _ ⟨s, _, C, cl, fp, rfl⟩)⟩)
    (fun s H C cl fp => ⟨fun pins s' σ H Q I h => (pE _ elt).run pins s' σ H Q I (h _ ⟨s, _, C, cl, fp, rfl⟩)⟩) hs) ?_
  have e9 : (fun (z : V) (H2 : Hp) => D.nx (f z) H2) = (fun z H2 => D.nx (σ.set i (some z)) H2) := by funext z H2; rw [hf]
  rw [e9] at q
  exact q
theorem wts_nil {R : Bool → Hp → Prop} (q : R true H) : WTs X [] σ H R := wTs pts_nil q
theorem wts_one {c : Expr} {R : Bool → Hp → Prop} (q : WT X c σ H R) : WTs X [c] σ H R := wTs (pts_one (pT X c)) q
/-- the body of one turn: the target, the tests, the element -/
def Tn (X : Cx) (scope : Scope) (tg elt : Expr) (ifs : List Expr) (vs : List Nat) (D : Addr) (acc : List V) (σ : L2.St) (x : V) (H : Hp) (Nx : List V → Hp → Prop) : Prop :=
  ∀ X', Blk X scope X' → WG X' tg x (wipe σ vs) H fun σ2 H2 => wipe σ2 vs = wipe σ vs ∧ ∀ X', Blk X scope X' → WTs X' ifs σ2 H2 fun b H3 =>
    if b = true then ∀ X', Blk X scope X' → WE X' elt σ2 H3 fun y H4 => H4 D = some (.lst acc) ∧ acc.length < sizeLine ∧ Nx (acc ++ [y]) (upd H4 D (.lst (acc ++ [y]))) else Nx acc H3
theorem WG.imp {v : V} {Q Q' : L2.St → Hp → Prop} (h : WG X tg v σ H Q) (k : ∀ σ' H', Q σ' H' → Q' σ' H') : WG X tg v σ H Q' := fun pins s u I r => thn (h pins s u I r) fun _ s' ⟨σ', H', J, q⟩ => ⟨σ', H', J, k _ _ q⟩
theorem WTs.imp {Q Q' : Bool → Hp → Prop} (h : WTs X ifs σ H Q) (k : ∀ v H', Q v H' → Q' v H') : WTs X ifs σ H Q' := fun pins s I => thn (h pins s I) fun u s' ⟨H', J, q⟩ => ⟨H', J, k _ H' q⟩
theorem Tn.go {D : Addr} {acc : List V} {x : V} {Nx : List V → Hp → Prop} {Nx' : Hp → Prop} (h : Tn X scope tg elt ifs vs D acc σ x H Nx) (k : ∀ acc H, Nx acc H → Nx' H) :
    ∀ X', Blk X scope X' → WG X' tg x (wipe σ vs) H fun σ2 H2 => wipe σ2 vs = wipe σ vs ∧ ∀ X', Blk X scope X' → WTs X' ifs σ2 H2 fun b H3 =>
    if b = true then ∀ X', Blk X scope X' → WE X' elt σ2 H3 fun y H4 => ∃ acc, H4 D = some (.lst acc) ∧ acc.length < sizeLine ∧ Nx' (upd H4 D (.lst (acc ++ [y]))) else Nx' H3 := fun X' hb => (h X' hb).imp fun σ2 H2 ⟨e, q⟩ => ⟨e, fun X' hb => (q X' hb).imp fun b H3 r => by
  cases b with
  | true => exact fun X' hb => (r X' hb).imp fun y H4 ⟨h1, h2, h3⟩ => ⟨acc, h1, h2, k _ _ h3⟩
  | false => exact k _ _ r⟩
theorem li_list {a : Addr} {xs : List V} (Pv : Addr → List V → List V → Hp → Prop) (h0 : ∀ D, H D = none → Pv D xs [] (upd H D (.lst []))) (hl : ∀ D r acc H, Pv D r acc H → SqL X.K H a xs)
    (hs : ∀ D x r acc H, Pv D (x :: r) acc H → Tn X scope tg elt ifs vs D acc σ x H (Pv D r)) (hd : ∀ D acc H, Pv D [] acc H → Q (.ref D) H) : LI X scope (Itl X.K a) tg elt ifs vs σ H Q := fun D hD => by
  refine ⟨fun i m H => m = xs.length - i ∧ i ≤ xs.length ∧ ∃ acc, Pv D (xs.drop i) acc H, ⟨xs.length, rfl, Nat.zero_le _, [], h0 D hD⟩, ?_⟩
  rintro i m H ⟨rfl, hi, acc, pv⟩
  have q := hl D _ _ H pv
  by_cases hlt : i < xs.length
  · refine .inr ⟨⟨xs, xs[i], q, by simp [hlt]⟩, fun H' => ∃ acc, Pv D (xs.drop (i + 1)) acc H', fun H' p' => ⟨xs.length - (i + 1), by omega, rfl, hlt, p'⟩, fun x H' y => ?_⟩
    obtain ⟨rfl, y⟩ := y
    have hx := y xs q
    rw [List.getElem?_eq_getElem hlt] at hx
    cases hx
    rw [List.drop_eq_getElem_cons hlt] at pv
    exact (hs D _ _ _ _ pv).go fun acc H h => ⟨acc, h⟩
  · have e : i = xs.length := by omega
    subst e
    rw [List.drop_length] at pv
    exact .inl ⟨⟨xs, q, Nat.le_refl _⟩, hd D _ H pv⟩
theorem li_tup {a : Addr} {xs : List V} (Pv : Addr → List V → List V → Hp → Prop) (h0 : ∀ D, H D = none → Pv D xs [] (upd H D (.lst []))) (hl : ∀ D r acc H, Pv D r acc H → SqT X.K H a xs)
    (hs : ∀ D x r acc H, Pv D (x :: r) acc H → Tn X scope tg elt ifs vs D acc σ x H (Pv D r)) (hd : ∀ D acc H, Pv D [] acc H → Q (.ref D) H) : LI X scope (Itt X.K a) tg elt ifs vs σ H Q := fun D hD => by
  refine ⟨fun i m H => m = xs.length - i ∧ i ≤ xs.length ∧ ∃ acc, Pv D (xs.drop i) acc H, ⟨xs.length, rfl, Nat.zero_le _, [], h0 D hD⟩, ?_⟩
  rintro i m H ⟨rfl, hi, acc, pv⟩
  have q := hl D _ _ H pv
  by_cases hlt : i < xs.length
  · refine .inr ⟨⟨xs, xs[i], q, by simp [hlt]⟩, fun H' => ∃ acc, Pv D (xs.drop (i + 1)) acc H', fun H' p' => ⟨xs.length - (i + 1), by omega, rfl, hlt, p'⟩, fun x H' y => ?_⟩
    obtain ⟨rfl, y⟩ := y
    have hx := y xs q
    rw [List.getElem?_eq_getElem hlt] at hx
    cases hx
    rw [List.drop_eq_getElem_cons hlt] at pv
    exact (hs D _ _ _ _ pv).go fun acc H h => ⟨acc, h⟩
  · have e : i = xs.length := by omega
    subst e
    rw [List.drop_length] at pv
    exact .inl ⟨⟨xs, q, Nat.le_refl _⟩, hd D _ H pv⟩
theorem li_range {lo : Int} {n : Nat} (Pv : Addr → Nat → List V → Hp → Prop) (h0 : ∀ D, H D = none → Pv D 0 [] (upd H D (.lst [])))
    (hs : ∀ D i acc H, i < n → Pv D i acc H → Tn X scope tg elt ifs vs D acc σ (.int (lo + (i : Nat))) H (Pv D (i + 1))) (hd : ∀ D acc H, Pv D n acc H → Q (.ref D) H) : LI X scope (Itr lo n) tg elt ifs vs σ H Q := fun D hD => by
  refine ⟨fun i m H => m = n - i ∧ i ≤ n ∧ ∃ acc, Pv D i acc H, ⟨n, rfl, Nat.zero_le _, [], h0 D hD⟩, ?_⟩
  rintro i m H ⟨rfl, hi, acc, pv⟩
  by_cases hlt : i < n
  · refine .inr ⟨hlt, fun H' => ∃ acc, Pv D (i + 1) acc H', fun H' p' => ⟨n - (i + 1), by omega, rfl, hlt, p'⟩, fun x H' y => ?_⟩
    obtain ⟨rfl, rfl⟩ := y
    exact (hs D i _ _ hlt pv).go fun acc H h => ⟨acc, h⟩
  · have e : i = n := by omega
    subst e
    exact .inl ⟨Nat.le_refl _, hd D _ H pv⟩
theorem li_enum {a : Addr} {xs : List V} (Pv : Addr → Nat → List V → List V → Hp → Prop) (h0 : ∀ D, H D = none → Pv D 0 xs [] (upd H D (.lst []))) (hl : ∀ D i r acc H, Pv D i r acc H → SqL X.K H a xs)
    (hs : ∀ D i x r acc H T, Pv D i (x :: r) acc H → H T = none → Tn X scope tg elt ifs vs D acc σ (.ref T) (upd H T (.tup [.int (i : Nat), x])) (Pv D (i + 1) r)) (hd : ∀ D i acc H, Pv D i [] acc H → Q (.ref D) H) : LI X scope (Ite X.K a) tg elt ifs vs σ H Q := fun D hD => by
  refine ⟨fun i m H => m = xs.length - i ∧ i ≤ xs.length ∧ ∃ acc, Pv D i (xs.drop i) acc H, ⟨xs.length, rfl, Nat.zero_le _, [], h0 D hD⟩, ?_⟩
  rintro i m H ⟨rfl, hi, acc, pv⟩
  have q := hl D _ _ _ H pv
  by_cases hlt : i < xs.length
  · refine .inr ⟨⟨xs, xs[i], q, by simp [hlt]⟩, fun H' => ∃ acc, Pv D (i + 1) (xs.drop (i + 1)) acc H', fun H' p' => ⟨xs.length - (i + 1), by omega, rfl, hlt, p'⟩, fun x H' y => ?_⟩
    obtain ⟨T, x', rfl, hT, rfl, y⟩ := y
    have hx := y xs q
    rw [List.getElem?_eq_getElem hlt] at hx
    cases hx
    rw [List.drop_eq_getElem_cons hlt] at pv
    exact (hs D _ _ _ _ _ T pv hT).go fun acc H h => ⟨acc, h⟩
  · have e : i = xs.length := by omega
    subst e
    rw [List.drop_length] at pv
    exact .inl ⟨⟨xs, q, Nat.le_refl _⟩, hd D _ _ H pv⟩
theorem li_zip {a b : Addr} {xs ys : List V} (Pv : Addr → List V → List V → List V → Hp → Prop) (h0 : ∀ D, H D = none → Pv D xs ys [] (upd H D (.lst []))) (hl : ∀ D r s acc H, Pv D r s acc H → SqL X.K H a xs ∧ SqL X.K H b ys)
    (hs : ∀ D x r y s acc H T, Pv D (x :: r) (y :: s) acc H → H T = none → Tn X scope tg elt ifs vs D acc σ (.ref T) (upd H T (.tup [x, y])) (Pv D r s)) (hd : ∀ D r s acc H, (r = [] ∨ s = []) → Pv D r s acc H → Q (.ref D) H) : LI X scope (Itz X.K a b) tg elt ifs vs σ H Q := fun D hD => by
  refine ⟨fun i m H => m = xs.length - i ∧ i ≤ xs.length ∧ i ≤ ys.length ∧ ∃ acc, Pv D (xs.drop i) (ys.drop i) acc H, ⟨xs.length, rfl, Nat.zero_le _, Nat.zero_le _, [], h0 D hD⟩, ?_⟩
  rintro i m H ⟨rfl, hi, hi2, acc, pv⟩
  obtain ⟨q1, q2⟩ := hl D _ _ _ H pv
  by_cases hlt : i < xs.length ∧ i < ys.length
  · obtain ⟨h1, h2⟩ := hlt
    refine .inr ⟨⟨xs, ys, xs[i], ys[i], q1, q2, by simp [h1], by simp [h2]⟩, fun H' => ∃ acc, Pv D (xs.drop (i + 1)) (ys.drop (i + 1)) acc H', fun H' p' => ⟨xs.length - (i + 1), by omega, rfl, h1, h2, p'⟩, fun x H' y => ?_⟩
    obtain ⟨T, x', y', rfl, hT, rfl, f1, f2⟩ := y
    have hx := f1 xs q1
    have hy := f2 ys q2
    rw [List.getElem?_eq_getElem h1] at hx
    rw [List.getElem?_eq_getElem h2] at hy
    cases hx
    cases hy
    rw [List.drop_eq_getElem_cons h1, List.drop_eq_getElem_cons h2] at pv
    exact (hs D _ _ _ _ _ _ T pv hT).go fun acc H h => ⟨acc, h⟩
  · have e : xs.length ≤ i ∨ ys.length ≤ i := by omega
    refine .inl ⟨⟨xs, ys, q1, q2, e⟩, hd D _ _ _ H ?_ pv⟩
    rcases e with e | e
    · exact .inl (List.drop_eq_nil_of_le e)
    · exact .inr (List.drop_eq_nil_of_le e)
/-- a turn whose target is a name, without tests -/
theorem tn_name {y : Str} {py : Pos} {D : Addr} {acc : List V} {x : V} {Nx : List V → Hp → Prop} {σ0 σ1 : L2.St} (B : Bd Z X N sc M G) (hm : (okM (relS scope sc) N M' && okG (relS scope sc) G' && okS scope M') = true) (h0 : wipe σ vs = σ0) (hu : Up2 M' σ0 y x σ1) (hw : wipe σ1 vs = σ0)
    (q : ∀ X', Blk X scope X' → Bd Z X' N (relS scope sc) M' G' → WE X' elt σ1 H fun v H4 => H4 D = some (.lst acc) ∧ acc.length < sizeLine ∧ Nx (acc ++ [v]) (upd H4 D (.lst (acc ++ [v])))) : Tn X scope (.Name y py) elt [] vs D acc σ x H Nx := by
  subst h0
  intro X' hb
  refine wg_name (B.blk hb hm) hu ⟨hw, fun X' hb => wts_nil ?_⟩
  show ∀ X', Blk X scope X' → _
  exact fun X' hb => q X' hb (B.blk hb hm)
/-- .. with a test -/
theorem tn_nameIf {y : Str} {py : Pos} {c : Expr} {D : Addr} {acc : List V} {x : V} {Nx : List V → Hp → Prop} {σ0 σ1 : L2.St} (B : Bd Z X N sc M G) (hm : (okM (relS scope sc) N M' && okG (relS scope sc) G' && okS scope M') = true) (h0 : wipe σ vs = σ0) (hu : Up2 M' σ0 y x σ1) (hw : wipe σ1 vs = σ0)
    (q : ∀ X', Blk X scope X' → Bd Z X' N (relS scope sc) M' G' → WT X' c σ1 H fun b H3 => if b = true then ∀ X', Blk X scope X' → Bd Z X' N (relS scope sc) M' G' → WE X' elt σ1 H3 fun v H4 => H4 D = some (.lst acc) ∧ acc.length < sizeLine ∧ Nx (acc ++ [v]) (upd H4 D (.lst (acc ++ [v]))) else Nx acc H3) : Tn X scope (.Name y py) elt [c] vs D acc σ x H Nx := by
  subst h0
  intro X' hb
  refine wg_name (B.blk hb hm) hu ⟨hw, fun X' hb => wts_one ((q X' hb (B.blk hb hm)).imp fun b H3 r => ?_)⟩
  cases b with
  | true => exact fun X' hb => r X' hb (B.blk hb hm)
  | false => exact r
/-- .. whose target is a pair of names -/
theorem tn_pair {y z : Str} {py pz pt : Pos} {k : Nat} {D T : Addr} {acc : List V} {x1 x2 : V} {Nx : List V → Hp → Prop} {σ0 σ1 σ2 : L2.St} (B : Bd Z X N sc M G) (hm : (okM (relS scope sc) N M' && okG (relS scope sc) G' && okS scope M') = true) (h0 : wipe σ vs = σ0) (hT : SqT Z.K H T [x1, x2])
    (hu : Up2 M' σ0 y x1 σ1) (hu2 : Up2 M' σ1 z x2 σ2) (hw : wipe σ2 vs = σ0)
    (q : ∀ X', Blk X scope X' → Bd Z X' N (relS scope sc) M' G' → WE X' elt σ2 H fun v H4 => H4 D = some (.lst acc) ∧ acc.length < sizeLine ∧ Nx (acc ++ [v]) (upd H4 D (.lst (acc ++ [v])))) : Tn X scope (.Tuple [.Name y py, .Name z pz] k pt) elt [] vs D acc σ (.ref T) H Nx := by
  subst h0
  intro X' hb
  have B' := B.blk hb hm
  refine wg_tup B' (by rw [B'.K]; exact hT) (wgs_cons (wg_name B' hu (wgs_cons (wg_name B' hu2 (wgs_nil ⟨hw, fun X' hb => wts_nil ?_⟩)))))
  show ∀ X', Blk X scope X' → _
  exact fun X' hb => q X' hb (B.blk hb hm)
end cp
end Y

namespace Y
open PySem PySem.Spec PyProof.Rows L2
/-! ### own defs: a promise where no repr is under way -/
structure FnG (Z : Wd) (k : Nat) (f : Addr) (fd : FuncData) (ps : List Str) (sp : Sp) : Prop where
  len : ∀ vs H Q E, sp vs H Q E → vs.length = ps.length
  run : ∀ (A : Around) (outer : List Env) (s : Shared) (H : Hp) (args : Args) (us : List Value) (vs : List V) (Q : VK) (E : XK), A.guards = some [] → Room k A → Env0 Z.P Z.w Z.K Z.mg Z.base A outer s H → BindsTo s fd args (ps.zip us) → Vals vs us → sp vs H Q E →
    codeAny (model Z.P Z.w) A (.call (.ref f) args) (CR (L2.CX Z.P Z.w) outer Z.P Z.w H s Q E) s
/-- a def of the module by its name -/
structure Fn (Z : Wd) (k : Nat) (name : Str) (ps : List Str) (sp : Sp) : Prop where
  ex : ∃ f fd, Z.mg name = some (.ref f) ∧ PySem.W.keepIn Z.K (.ref f) = true ∧ Binds Z.K fd ps [] ∧ FnG Z k f fd ps sp
/-- a def called with keywords ks behind n values -/
structure FnK (Z : Wd) (k : Nat) (name : Str) (ps : List Str) (n : Nat) (ks : List Str) (sp : Sp) : Prop where
  ex : ∃ f fd, Z.mg name = some (.ref f) ∧ PySem.W.keepIn Z.K (.ref f) = true ∧ KBn Z.K fd ps n ks (fun us ws => us ++ ws) (fun us ws => us ++ ws) ∧ FnG Z k f fd ps sp
/-- a method of the class at C -/
structure Mth (Z : Wd) (k : Nat) (C : Addr) (m : Str) (ps : List Str) (sp : Sp) : Prop where
  ex : ∃ f fd, Meth Z.K C m f ∧ Binds Z.K fd ps [] ∧ FnG Z k f fd ps sp
  cl : Cls Z.K C
/-- the class's maker: its __init__ keeps sp -/
structure Mkr (Z : Wd) (k : Nat) (C : Addr) (name : Str) (ps : List Str) (sp : Sp) : Prop where
  ex : ∃ f fd, Mk Z.K C f ∧ Binds Z.K fd ps [] ∧ FnG Z k f fd ps sp
  mg : Z.mg name = some (.ref C)
def noX : XK := fun _ _ _ => False

section call
variable {Z : Wd} {X : Cx} {N : List Str} {sc : Scope} {M : Msk} {G : List Str} {σ : L2.St} {H : Hp} {Q : VK} {p pf ap : Pos} {k : Nat} {name : Str} {ps : List Str} {sp : Sp} {E : XK} {e : Expr} {es : List Expr}
theorem passZ : Passes (L2.CX X.prog X.w) X noX := fun _ _ _ _ _ _ _ h => by
  obtain ⟨_, _, _, _, _, _, _, _, _, _, _, _, z⟩ := h
  exact z.elim
theorem passW {W : WX} (tk : Takes X W) (h : ∀ c d σ H, E c d H → W c d σ H) : Passes (L2.CX X.prog X.w) X E := passes_call tk h
/-- behind a call: the three ends -/
theorem afterG {pins : List (Addr × Obj)} {s s' : Shared} {r : Result} (B : Bd Z X N sc M G) (hx : Passes (L2.CX X.prog X.w) X E) (I : Inv X pins σ H s) (hq : CR (L2.CX Z.P Z.w) X.stack Z.P Z.w H s Q E r s') :
    match r with | .ok (.ret u) => EP X pins σ Q u s' | .ok _ => False | .error e => X.xe e s' := by
  rw [← B.prog, ← B.w] at hq
  cases r with
  | error er => exact hx pins σ H s er s' I hq
  | ok fl =>
    cases fl with
    | ret u => exact I.after hq
    | next => exact hq
    | brk => exact hq
    | cont => exact hq
theorem env0Z {pins : List (Addr × Obj)} {s : Shared} (B : Bd Z X N sc M G) (I : Inv X pins σ H s) : Env0 Z.P Z.w Z.K Z.mg Z.base X.A X.stack s H := by
  have := I.env0
  rw [B.prog, B.w, B.K, B.mg, B.base] at this
  exact this
theorem runG {pins : List (Addr × Obj)} {s : Shared} {f : Addr} {fd : FuncData} {args : List Value} {kw : List (Str × Value)} {us : List Value} {vs : List V} (B : Bd Z X N sc M G) (F : FnG Z k f fd ps sp) (hr : Room k X.A) (hx : Passes (L2.CX X.prog X.w) X E) (I : Inv X pins σ H s)
    (hb : BindsTo s fd ⟨args, kw⟩ (ps.zip us)) (r : Vals vs us) (h : sp vs H Q E) : wpAny (model X.prog X.w) X.A (call (.ref f) args kw) (EP X pins σ Q) X.xe s := by
  have hrun := F.run X.A X.stack s H ⟨args, kw⟩ us vs Q E B.gd hr (env0Z B I) hb r h
  rw [← B.prog, ← B.w] at hrun
  refine wpAny_call (codeAny_mono hrun fun r s' hq => ?_)
  rw [B.prog, B.w] at hq
  have := afterG B hx I hq
  cases r with
  | error er => exact this
  | ok fl =>
    cases fl with
    | ret u => exact this
    | next => exact False.elim this
    | brk => exact False.elim this
    | cont => exact False.elim this
theorem kInZ {pins : List (Addr × Obj)} {s : Shared} (B : Bd Z X N sc M G) (I : Inv X pins σ H s) : Z.K.In s.heap := by rw [← B.K]; exact I.kIn
theorem we_call (B : Bd Z X N sc M G) (F : Fn Z k name ps sp) (hr : Room k X.A) (hx : Passes (L2.CX X.prog X.w) X E) (hg : name ∈ G) (q : WA X (e :: es) σ H fun vs H1 => sp vs H1 Q E)
    (he : starEach (e :: es) X.env = (false, eval e X.env) :: starEach es X.env := by with_unfolding_all rfl) (hpl : (backTo p (starEach es X.env)).any (·.1) = false := by with_unfolding_all rfl) : WE X (.Call (.Name name pf) (e :: es) [] p) σ H Q := by
  obtain ⟨f, fd, hm, hk, hb, F⟩ := F.ex
  obtain ⟨e1, e2, e3⟩ := B.gl _ hg
  intro pins s I
  refine wpAny_Call_Name_kw (ld_glob I e1 (by rw [B.mg]; exact hm) ?_ e2)
  refine PySem.W.callWith_K (h₀ := X.base) I.ok.mod.kin (by rw [B.K]; exact hk) (thn (q p pins s I) fun us s1 ⟨vs, H1, I1, r, q1⟩ => ⟨I1.kIn, ?_⟩) he hpl
  have hl : (us ++ []).length = ps.length := by rw [List.append_nil, ← r.length]; exact F.len _ _ _ _ q1
  have := hb s1 us (kInZ B I1) hl
  exact runG (us := us ++ []) B F hr hx I1 this (by rw [List.append_nil]; exact r) q1
theorem we_call0 (B : Bd Z X N sc M G) (F : Fn Z k name ps sp) (hr : Room k X.A) (hx : Passes (L2.CX X.prog X.w) X E) (hg : name ∈ G) (q : sp [] H Q E) : WE X (.Call (.Name name pf) [] [] p) σ H Q := by
  obtain ⟨f, fd, hm, hk, hb, F⟩ := F.ex
  obtain ⟨e1, e2, e3⟩ := B.gl _ hg
  intro pins s I
  refine wpAny_Call_Name_kw (ld_glob I e1 (by rw [B.mg]; exact hm) ?_ e2)
  have hl : (([] : List Value) ++ []).length = ps.length := F.len _ _ _ _ q
  exact PySem.W.callWith_K0 I.kIn (by rw [B.K]; exact hk) (runG (us := [] ++ []) B F hr hx I (hb s [] (kInZ B I) hl) .nil q)
theorem we_callK {n : Nat} {ks : List Str} {kws : List Keyword} (B : Bd Z X N sc M G) (F : FnK Z k name ps n ks sp) (hr : Room k X.A) (hx : Passes (L2.CX X.prog X.w) X E) (hg : name ∈ G) (q : WA X (e :: es) σ H fun vs H1 => WK X kws σ H1 fun zs H2 => vs.length = n ∧ zs.length = ks.length ∧ sp (vs ++ zs) H2 Q E)
    (hall : (backToKw p (keywordEach kws X.env)).all (·.1.isSome) = true := by with_unfolding_all rfl) (hks : (backToKw p (keywordEach kws X.env)).filterMap (·.1) = ks := by with_unfolding_all rfl)
    (he : starEach (e :: es) X.env = (false, eval e X.env) :: starEach es X.env := by with_unfolding_all rfl) (hpl : ((backTo p (starEach (e :: es) X.env)).any (·.1) || (backToKw p (keywordEach kws X.env)).any (·.1.isNone)) = false := by with_unfolding_all rfl) : WE X (.Call (.Name name pf) (e :: es) kws p) σ H Q := by
  obtain ⟨f, fd, hm, hk, hb, F⟩ := F.ex
  obtain ⟨e1, e2, e3⟩ := B.gl _ hg
  intro pins s I
  refine wpAny_Call_Name_kw (ld_glob I e1 (by rw [B.mg]; exact hm) ?_ e2)
  refine PySem.W.callWith_KW (h₀ := X.base) I.ok.mod.kin (by rw [B.K]; exact hk) hall (thn (q p pins s I) fun us s1 ⟨vs, H1, I1, r, q1⟩ => ?_) hpl he
  refine thn (q1 p pins s1 I1) fun ws s2 ⟨zs, H2, I2, rz, l1, l2, q2⟩ => ⟨I2.kIn, ?_⟩
  rw [hks]
  exact runG (us := us ++ ws) B F hr hx I2 (hb.to s2 us ws (kInZ B I2) (r.length.symm.trans l1) (rz.length.symm.trans l2)) (hb.rel r rz) q2
/-- o.m(e, ..) of an instance of the class at C -/
theorem we_meth {C : Addr} {m : Str} {o : Expr} {pl : Sem Bool} (B : Bd Z X N sc M G) (F : Mth Z k C m ps sp) (hr : Room k X.A) (hx : Passes (L2.CX X.prog X.w) X E)
    (q : WE X o σ H fun x H1 => ∃ a dx fs, x = .ref a ∧ H1 a = some (.ins C dx fs) ∧ fs.lookup m = none ∧ WA X (e :: es) σ H1 fun vs H2 => sp (x :: vs) H2 Q E)
    (hst : starEach (e :: es) X.env = (false, eval e X.env) :: starEach es X.env := by with_unfolding_all rfl) (hpl : (backTo p (starEach es X.env)).any (·.1) = false := by with_unfolding_all rfl)
    (ht : eval (.Call (.Attribute o m ap) (e :: es) [] p) X.env = (do
      let ov ← eval o X.env
      standAt ap.atName
      let (f, first) ← holding [ov] (getMethod ov m pl)
      callWith p f first (backTo p (starEach (e :: es) X.env)) (backToKw p (keywordEach [] X.env))) := by with_unfolding_all rfl) : WE X (.Call (.Attribute o m ap) (e :: es) [] p) σ H Q := by
  obtain ⟨f, fd, hm, hb, FG⟩ := F.ex
  have c : Cls X.K C := by rw [B.K]; exact F.cl
  have hm' : Meth X.K C m f := by rw [B.K]; exact hm
  intro pins s I
  refine PySem.W.methodCall_KW (pl := pl) (thn (q pins s I) fun u s1 ⟨x, H1, I1, rx, a, dx, fs, ex, ea, l, q1⟩ => ?_) ht
  subst ex
  obtain rfl : u = Value.ref a := rx
  refine getmeth_ok I1 ea c hm' l ?_
  refine PySem.W.callWith_K (first := [.ref a]) (h₀ := X.base) I.ok.mod.kin hm'.kp (thn (q1 p pins s1 I1) fun us s2 ⟨vs, H2, I2, r, q2⟩ => ⟨I2.kIn, ?_⟩) hst hpl
  have r2 : Vals (V.ref a :: vs) (Value.ref a :: us) := .cons rfl r
  have hl : ((Value.ref a :: us) ++ []).length = ps.length := by rw [List.append_nil, ← r2.length]; exact FG.len _ _ _ _ q2
  exact runG (us := (Value.ref a :: us) ++ []) B FG hr hx I2 (hb s2 (Value.ref a :: us) (kInZ B I2) hl) (by rw [List.append_nil]; exact r2) q2
theorem we_meth0 {C : Addr} {m : Str} {o : Expr} {pl : Sem Bool} (B : Bd Z X N sc M G) (F : Mth Z k C m ps sp) (hr : Room k X.A) (hx : Passes (L2.CX X.prog X.w) X E)
    (q : WE X o σ H fun x H1 => ∃ a dx fs, x = .ref a ∧ H1 a = some (.ins C dx fs) ∧ fs.lookup m = none ∧ sp [x] H1 Q E)
    (ht : eval (.Call (.Attribute o m ap) [] [] p) X.env = (do
      let ov ← eval o X.env
      standAt ap.atName
      let (f, first) ← holding [ov] (getMethod ov m pl)
      callWith p f first (backTo p (starEach [] X.env)) (backToKw p (keywordEach [] X.env))) := by with_unfolding_all rfl) : WE X (.Call (.Attribute o m ap) [] [] p) σ H Q := by
  obtain ⟨f, fd, hm, hb, FG⟩ := F.ex
  have c : Cls X.K C := by rw [B.K]; exact F.cl
  have hm' : Meth X.K C m f := by rw [B.K]; exact hm
  intro pins s I
  refine PySem.W.methodCall_KW (pl := pl) (thn (q pins s I) fun u s1 ⟨x, H1, I1, rx, a, dx, fs, ex, ea, l, q1⟩ => ?_) ht
  subst ex
  obtain rfl : u = Value.ref a := rx
  refine getmeth_ok I1 ea c hm' l ?_
  have r2 : Vals [V.ref a] [Value.ref a] := .cons rfl .nil
  have hl : ([Value.ref a] ++ []).length = ps.length := by rw [List.append_nil, ← r2.length]; exact FG.len _ _ _ _ q1
  exact PySem.W.callWith_K0 (first := [.ref a]) I1.kIn hm'.kp (runG (us := [Value.ref a] ++ []) B FG hr hx I1 (hb s1 [Value.ref a] (kInZ B I1) hl) r2 q1)
/-- C(e, ..) -/
theorem guards_make {A : Around} {C : Addr} {us : List Value} (h : A.guards = some []) : (A.under (.builtin "type.__call__" ⟨.ref C :: us, []⟩)).guards = some [] := by
  have : (Code.builtin "type.__call__" ⟨.ref C :: us, []⟩).guards = [] := by first | rfl | simp [Code.guards, Code.isGuard, guardIds]
  unfold Around.under
  show pushGuards (Code.builtin "type.__call__" ⟨.ref C :: us, []⟩).guards A.guards = some []
  rw [this, h]; rfl
theorem we_make {C : Addr} (B : Bd Z X N sc M G) (F : Mkr Z k C name ps sp) (hr : Room (k + 1) X.A) (hx : Passes (L2.CX X.prog X.w) X E) (hg : name ∈ G)
    (q : WA X (e :: es) σ H fun vs H1 => ∀ x dx, H1 x = none → H1 dx = none → dx ≠ x → sp (.ref x :: vs) (upd (upd H1 dx (.own x)) x (.ins C dx [])) (fun v H2 => v = .non ∧ Q (.ref x) H2) E)
    (he : starEach (e :: es) X.env = (false, eval e X.env) :: starEach es X.env := by with_unfolding_all rfl) (hpl : (backTo p (starEach es X.env)).any (·.1) = false := by with_unfolding_all rfl) : WE X (.Call (.Name name pf) (e :: es) [] p) σ H Q := by
  obtain ⟨f, fd, mk, hb, FG⟩ := F.ex
  have M' : Mk X.K C f := by rw [B.K]; exact mk
  obtain ⟨e1, e2, e3⟩ := B.gl _ hg
  intro pins s I
  refine wpAny_Call_Name_kw (ld_glob I e1 (by rw [B.mg]; exact F.mg) ?_ e2)
  refine PySem.W.callWith_K (h₀ := X.base) I.ok.mod.kin M'.kp (thn (q p pins s I) fun us s1 ⟨vs, H1, I1, r, q1⟩ => ⟨I1.kIn, ?_⟩) he hpl
  have hq := q1 (s1.heap.objs.size + 1) s1.heap.objs.size (I1.hok.fresh (Nat.le_succ _)) (I1.hok.fresh (Nat.le_refl _)) (Nat.ne_of_lt (Nat.lt_succ_self _))
  have I2 := Inv.made (C := C) I1
  have r2 : Vals (V.ref (s1.heap.objs.size + 1) :: vs) (Value.ref (s1.heap.objs.size + 1) :: us) := .cons rfl r
  have hl : ((Value.ref (s1.heap.objs.size + 1) :: us) ++ []).length = ps.length := by rw [List.append_nil, ← r2.length]; exact FG.len _ _ _ _ hq
  have e0 := env0Z B I2
  have hrun := FG.run _ X.stack _ _ ⟨Value.ref (s1.heap.objs.size + 1) :: us, []⟩ ((Value.ref (s1.heap.objs.size + 1) :: us) ++ []) _ _ E (guards_make (C := C) (us := us) B.gd) (hr.make C us []) (e0.make C us []) (hb _ (Value.ref (s1.heap.objs.size + 1) :: us) (kInZ B I2) hl) (by rw [List.append_nil]; exact r2) hq
  rw [← B.prog, ← B.w] at hrun
  refine wpAny_call (make_map (f := f) I1.kIn M'.makes M'.init (beq_iff_eq.mp M'.fn) (codeAny_mono hrun fun r s' hq' => ?_))
  rw [B.prog, B.w] at hq'
  have := afterG B hx I2 hq'
  cases r with
  | error er => exact this
  | ok fl =>
    cases fl with
    | ret u =>
      obtain ⟨v, H', I3, rv, ev, q3⟩ := this
      subst ev
      exact ⟨rv, ⟨V.ref (s1.heap.objs.size + 1), H', I3, rfl, q3⟩⟩
    | next => exact False.elim this
    | brk => exact False.elim this
    | cont => exact False.elim this
end call

/-- the slots said otherwise -/
theorem wst {X : Cx} {st : List Stmt} {D : Ends} {σ σ' : L2.St} {H : Hp} (e : σ = σ') (h : WSs X st D σ' H) : WSs X st D σ H := by rw [e]; exact h
/-- what a body knows of its frame, beside Bd -/
structure Fr2 (Z : Wd) (X : Cx) (k : Nat) (E : XK) : Prop where
  room : Room k X.A
  tk : Takes X (fun cls d _ H => E cls d H)
  po : PassesOwn (model X.prog X.w) X.A X.env X.xe
  stk : X.stack = X.env :: X.outer
  fr : X.env.frame = some X.env.locals
/-- THE RULE of a def -/
theorem fnG_of {Z : Wd} {k : Nat} {x qual : Str} {st : Stmt} {f : Addr} {fd : FuncData} {N ps G : List Str} {M : Msk} {sp : Sp} (F : Fun Z.K x qual st f fd) (S : FnScope N ps (defScope st)) (hm : (okM (defScope st) N M && okG (defScope st) G) = true)
    (len : ∀ vs H Q E, sp vs H Q E → vs.length = ps.length)
    (hbody : ∀ (X : Cx) (H : Hp) (vs : List V) (Q : VK) (E : XK), Bd Z X N (defScope st) M G → Fr2 Z X k E → sp vs H Q E → WSs X (defBody st) { nx := fun _ H' => Q .non H', rt := Q } (start N vs) H) : FnG Z (k + 1) f fd ps sp := by
  obtain ⟨oc, od, kV, doc, pm, an, cdv, ct, osl, rfl, lk, hcd⟩ := F.ex
  rw [Bool.and_eq_true] at hm
  refine ⟨len, fun A outer s H args us vs Q E hg hr e0 hb r hsp => ?_⟩
  -- the library's rule at this very Around, by a promise that holds nowhere else
  have key : ∀ (A' : Around) (outer' : List Env) (s' : Shared) (H' : Hp) (vs' : List V) (Q' : VK) (E' : XK), A'.guards = some [] → Room k (A'.deeper (envOfC qual (defScope st) s'.heap.objs.size f cdv)) → sp vs' H' Q' E' →
      PSs (cxOf (L2.CX Z.P Z.w) Z.P Z.w Z.K Z.mg Z.base N qual (defScope st) f cdv A' outer' s' H' E') (defBody st) (fun D σ H => WSs (cxOf (L2.CX Z.P Z.w) Z.P Z.w Z.K Z.mg Z.base N qual (defScope st) f cdv A' outer' s' H' E') (defBody st) D σ H) ∧
      WSs (cxOf (L2.CX Z.P Z.w) Z.P Z.w Z.K Z.mg Z.base N qual (defScope st) f cdv A' outer' s' H' E') (defBody st) { nx := fun _ H'' => Q' .non H'', rt := Q' } (start N vs') H' := by
    intro A' outer' s' H' vs' Q' E' hg' hr' hs'
    refine ⟨pSs _ _, hbody _ H' vs' Q' E' ⟨rfl, rfl, rfl, rfl, rfl, rfl, rfl, hm.1, hm.2, fun i x hx => .inl rfl, S.nd, rfl, hg'⟩ ⟨hr', takes_of rfl rfl rfl rfl, PassesOwn.leaving, rfl, rfl⟩ hs'⟩
  obtain ⟨ht, hq⟩ := key A outer s H vs Q E hg (hr.deeper _) hsp
  have hl := len _ _ _ _ hsp
  have KX : Z.K.In s.heap := e0.mod.kin.keeps fun b o e => (e0.bs b o e).1
  have lim : s.heap.NoLimit := e0.mod.nolimit.keeps fun b o e => (e0.bs b o e).1
  have hkind : ∀ y ∈ ps.zip us, (defScope st).names.lookup y.1 = some .local ∨ ((defScope st).names.lookup y.1 = some .cell ∧ ((cellsFrom (s.heap.objs.size + 1) (defScope st).names []).lookup y.1).isSome = true) := fun y hy => by
    rcases S.par y.1 (List.of_mem_zip hy).1 with q | q
    · exact .inl q
    · exact .inr ⟨q, PySem.W.cellsFrom_some _ _ _ (.inl q)⟩
  refine codeAny_call_function hr.depth (KX _ _ lk) rfl S.co S.gen rfl (PySem.W.codeRec_of KX hcd) (hb _ _ _ _ ?_)
  refine wpAny_newFunctionEnv_cells S.kind hkind fun env he s1 x => ?_
  subst he
  refine ⟨lim.keeps x.toInCall.keep, codeAny_func ?_⟩
  have I := inv_start (CX := L2.CX Z.P Z.w) (E := E) S hr.hd e0 hl r x
  refine wpAny_mono (ht.run [] s1 (start N vs) H _ I hq) (fun fl s' hs => ?_) fun e s' hs => hs
  cases fl with
  | ret u =>
    obtain ⟨v, σ', H', J, rv, q⟩ := hs
    exact ⟨v, H', J.os, J.bare, J.base, J.hok, rv, q⟩
  | next =>
    obtain ⟨σ', H', J, q⟩ := hs
    exact ⟨.non, H', J.os, J.bare, J.base, J.hok, rfl, q⟩
  | brk =>
    obtain ⟨_, _, _, q⟩ := hs
    exact False.elim q
  | cont =>
    obtain ⟨_, _, _, q⟩ := hs
    exact False.elim q
end Y

namespace Y
open PySem PySem.Spec PyProof.Rows L2
/-! ### the part of the heap that stays as it is, and what a piece of code does -/
structure Gr (S : List Addr) (I H I' H' : Hp) : Prop where
  ii : Same I I'
  sub : Same I' H'
  fresh : ∀ p o, I' p = some o → I p = none → H p = none
  keep : ∀ p o, H p = some o → p ∉ S → H' p = some o
  dom : ∀ p, H' p = none → H p = none
section gr
variable {S S' : List Addr} {I H I1 H1 I2 H2 : Hp} {p : Addr} {o o' : HO}
theorem ne_none {H : Hp} {p q : Addr} {o : HO} (h : H q = some o) (h' : H p = none) : q ≠ p := fun e => by rw [e, h'] at h; cases h
theorem Gr.refl (h : Same I H) : Gr S I H I H := ⟨Same.refl _, h, fun p o h1 h2 => (by rw [h2] at h1; cases h1), fun _ _ h _ => h, fun _ h => h⟩
theorem Gr.trans (a : Gr S I H I1 H1) (b : Gr S I1 H1 I2 H2) : Gr S I H I2 H2 where
  ii := a.ii.trans b.ii
  sub := b.sub
  fresh := fun p o h1 h2 => by
    cases e : I1 p with
    | none => exact a.dom p (b.fresh p o h1 e)
    | some o' => exact a.fresh p o' e h2
  keep := fun p o h hn => b.keep p o (a.keep p o h hn) hn
  dom := fun p h => a.dom p (b.dom p h)
theorem Gr.mono (a : Gr S I H I1 H1) (h : ∀ p, p ∈ S → p ∈ S') : Gr S' I H I1 H1 := ⟨a.ii, a.sub, a.fresh, fun p o e hn => a.keep p o e fun z => hn (h p z), a.dom⟩
theorem Gr.nil (a : Gr [] I H I1 H1) : Gr S I H I1 H1 := a.mono fun p h => absurd h (by simp)
/-- a new object that stays -/
theorem Gr.new (g : Gr S I H I1 H1) (h : H1 p = none) : Gr S I H (upd I1 p o) (upd H1 p o) where
  ii := fun q u e => by rw [upd_ne (ne_none (g.sub q u (g.ii q u e)) h)]; exact g.ii q u e
  sub := fun q u e => by
    by_cases hq : q = p
    · subst hq; rw [upd_same] at e ⊢; exact e
    · rw [upd_ne hq] at e ⊢; exact g.sub q u e
  fresh := fun q u e hi => by
    by_cases hq : q = p
    · subst hq; exact g.dom q h
    · rw [upd_ne hq] at e; exact g.fresh q u e hi
  keep := fun q u e hn => by
    have := g.keep q u e hn
    rw [upd_ne (ne_none this h)]; exact this
  dom := fun q e => by
    by_cases hq : q = p
    · subst hq; rw [upd_same] at e; cases e
    · rw [upd_ne hq] at e; exact g.dom q e
/-- a new object that will change -/
theorem Gr.tmp (g : Gr S I H I1 H1) (h : H1 p = none) : Gr S I H I1 (upd H1 p o) where
  ii := g.ii
  sub := fun q u e => by have := g.sub q u e; rw [upd_ne (ne_none this h)]; exact this
  fresh := g.fresh
  keep := fun q u e hn => by
    have := g.keep q u e hn
    rw [upd_ne (ne_none this h)]; exact this
  dom := fun q e => by
    by_cases hq : q = p
    · subst hq; rw [upd_same] at e; cases e
    · rw [upd_ne hq] at e; exact g.dom q e
/-- an object changes -/
theorem Gr.mut (g : Gr S I H I1 H1) (hI : I1 p = none) (hp : p ∈ S ∨ H p = none) : Gr S I H I1 (upd H1 p o) where
  ii := g.ii
  sub := fun q u e => by rw [upd_ne (ne_none e hI)]; exact g.sub q u e
  fresh := g.fresh
  keep := fun q u e hn => by
    have hq : q ≠ p := fun z => by
      subst z
      rcases hp with hp | hp
      · exact hn hp
      · rw [hp] at e; cases e
    rw [upd_ne hq]; exact g.keep q u e hn
  dom := fun q e => by
    by_cases hq : q = p
    · subst hq; rw [upd_same] at e; cases e
    · rw [upd_ne hq] at e; exact g.dom q e
/-- a new object will not change any more -/
theorem Gr.frz (g : Gr S I H I1 H1) (h : H1 p = some o) (hp : H p = none) : Gr S I H (upd I1 p o) H1 where
  ii := fun q u e => by
    by_cases hq : q = p
    · subst hq
      have := g.sub q u (g.ii q u e)
      rw [h] at this; rw [upd_same, this]
    · rw [upd_ne hq]; exact g.ii q u e
  sub := fun q u e => by
    by_cases hq : q = p
    · subst hq; rw [upd_same] at e; rw [h, e]
    · rw [upd_ne hq] at e; exact g.sub q u e
  fresh := fun q u e hi => by
    by_cases hq : q = p
    · subst hq; exact hp
    · rw [upd_ne hq] at e; exact g.fresh q u e hi
  keep := g.keep
  dom := g.dom
theorem Gr.out (g : Gr S I H I1 H1) (hI : I p = none) (h : H p = some o) : I1 p = none := by
  cases e : I1 p with
  | none => rfl
  | some u => rw [g.fresh p u e hI] at h; cases h
theorem Gr.new0 (g : Gr S I H I1 H1) (h : H1 p = none) : H p = none := g.dom p h
end gr
end Y
namespace L2
open PySem PySem.Spec PyProof.Rows
theorem Same.sqT {K : PySem.W.Frag} {H H' : Hp} {a : Addr} {xs : List V} (e : Same H H') (h : SqT K H a xs) : SqT K H' a xs := by
  rcases h with (h | ⟨o, h⟩) | h
  · exact .inl (.inl (e _ _ h))
  · exact .inl (.inr ⟨o, e _ _ h⟩)
  · exact .inr h
mutual
theorem dp_mono {K : PySem.W.Frag} {H H' : Hp} (e : Same H H') : ∀ {v : V} {d : PyData}, Dp K H v d → Dp K H' v d
  | _, _, .non => .non
  | _, _, .bl b => .bl b
  | _, _, .int i => .int i
  | _, _, .str x => .str x
  | _, _, .lst h t => .lst (e.seq h) (dps_mono e t)
  | _, _, .tup h t => .tup (Same.sqT e h) (dps_mono e t)
theorem dps_mono {K : PySem.W.Frag} {H H' : Hp} (e : Same H H') : ∀ {v : List V} {d : List PyData}, DpAll K H v d → DpAll K H' v d
  | _, _, .nil => .nil
  | _, _, .cons h t => .cons (dp_mono e h) (dps_mono e t)
end
section dp
variable {K : PySem.W.Frag} {I : Hp} {v : V} {d : PyData} {vs : List V} {ds : List PyData}
theorem Dp.list_inv (h : Dp K I v (.list ds)) : ∃ a xs, v = .ref a ∧ SqL K I a xs ∧ DpAll K I xs ds := by
  cases h with
  | lst h t => exact ⟨_, _, rfl, h, t⟩
theorem Dp.tup_inv (h : Dp K I v (.tuple ds)) : ∃ a xs, v = .ref a ∧ SqT K I a xs ∧ DpAll K I xs ds := by
  cases h with
  | tup h t => exact ⟨_, _, rfl, h, t⟩
theorem Dp.int_inv {i : Int} (h : Dp K I v (.int i)) : v = .int i := by cases h; rfl
theorem Dp.bl_inv {i : Bool} (h : Dp K I v (.bool i)) : v = .bl i := by cases h; rfl
theorem DpAll.len : ∀ {vs : List V} {ds : List PyData}, DpAll K I vs ds → vs.length = ds.length
  | _, _, .nil => rfl
  | _, _, .cons _ t => by rw [List.length_cons, List.length_cons, DpAll.len t]
theorem DpAll.get : ∀ {vs : List V} {ds : List PyData} {i : Nat} {d : PyData}, DpAll K I vs ds → ds[i]? = some d → ∃ v, vs[i]? = some v ∧ Dp K I v d
  | _, _, _, _, .nil, h => by simp at h
  | _, _, 0, _, .cons h t, e => by simp at e; subst e; exact ⟨_, rfl, h⟩
  | _, _, i + 1, _, .cons h t, e => by
    obtain ⟨v, h1, h2⟩ := DpAll.get (i := i) t (by simpa using e)
    exact ⟨v, by simpa using h1, h2⟩
theorem DpAll.app : ∀ {vs ws : List V} {ds es : List PyData}, DpAll K I vs ds → DpAll K I ws es → DpAll K I (vs ++ ws) (ds ++ es)
  | _, _, _, _, .nil, s => s
  | _, _, _, _, .cons h t, s => .cons h (DpAll.app t s)
theorem DpAll.take : ∀ {vs : List V} {ds : List PyData} (n : Nat), DpAll K I vs ds → DpAll K I (vs.take n) (ds.take n)
  | _, _, 0, _ => .nil
  | _, _, _ + 1, .nil => .nil
  | _, _, n + 1, .cons h t => .cons h (DpAll.take n t)
theorem DpAll.drop : ∀ {vs : List V} {ds : List PyData} (n : Nat), DpAll K I vs ds → DpAll K I (vs.drop n) (ds.drop n)
  | _, _, 0, r => r
  | _, _, _ + 1, .nil => .nil
  | _, _, n + 1, .cons h t => DpAll.drop n t
theorem DpAll.ints : ∀ {vs : List V} {ns : List Int}, DpAll K I vs (ns.map PyData.int) → vs = ns.map V.int
  | _, [], h => by cases h; rfl
  | _, n :: ns, h => by
    rw [List.map_cons] at h
    cases h with
    | cons h t => rw [h.int_inv, DpAll.ints t]; rfl
theorem dps_ints : ∀ (ns : List Int), DpAll K I (ns.map V.int) (ns.map PyData.int)
  | [] => .nil
  | n :: ns => .cons (.int n) (dps_ints ns)
end dp
end L2
namespace Y
open PySem PySem.Spec PyProof.Rows L2
/-- a list, a tuple of ints; of such -/
abbrev dI (ns : List Int) : PyData := .list (ns.map .int)
abbrev dG (rows : List (List Int)) : PyData := .list (rows.map dI)
abbrev tI (ns : List Int) : PyData := .tuple (ns.map .int)
abbrev tG (rows : List (List Int)) : PyData := .tuple (rows.map tI)
theorem dI_inv {K : PySem.W.Frag} {I : Hp} {v : V} {ns : List Int} (h : Dp K I v (dI ns)) : ∃ a, v = .ref a ∧ SqL K I a (ns.map V.int) := by
  obtain ⟨a, xs, rfl, h, t⟩ := h.list_inv
  exact ⟨a, rfl, by rw [← t.ints]; exact h⟩
theorem tI_inv {K : PySem.W.Frag} {I : Hp} {v : V} {ns : List Int} (h : Dp K I v (tI ns)) : ∃ a, v = .ref a ∧ SqT K I a (ns.map V.int) := by
  obtain ⟨a, xs, rfl, h, t⟩ := h.tup_inv
  exact ⟨a, rfl, by rw [← t.ints]; exact h⟩
theorem dI_of {K : PySem.W.Frag} {I : Hp} {a : Addr} {ns : List Int} (h : I a = some (.lst (ns.map V.int))) : Dp K I (.ref a) (dI ns) := .lst (.inl (.inl h)) (dps_ints ns)
theorem tI_of {K : PySem.W.Frag} {I : Hp} {a : Addr} {ns : List Int} (h : I a = some (.tup (ns.map V.int))) : Dp K I (.ref a) (tI ns) := .tup (.inl (.inl h)) (dps_ints ns)
theorem dL_of {K : PySem.W.Frag} {I : Hp} {a : Addr} {vs : List V} {ds : List PyData} (h : I a = some (.lst vs)) (t : DpAll K I vs ds) : Dp K I (.ref a) (.list ds) := .lst (.inl (.inl h)) t
theorem dT_of {K : PySem.W.Frag} {I : Hp} {a : Addr} {vs : List V} {ds : List PyData} (h : I a = some (.tup vs)) (t : DpAll K I vs ds) : Dp K I (.ref a) (.tuple ds) := .tup (.inl (.inl h)) t
theorem le_line {n : Nat} (h : n ≤ 16777216) : n ≤ sizeLine := by rw [sizeLine_eq]; exact h
theorem lt_line {n : Nat} (h : n < 16777216) : n < sizeLine := by rw [sizeLine_eq]; exact h

/-! ### operations by values -/
section vo
variable {Z : Wd} {X : Cx} {N : List Str} {sc : Scope} {M : Msk} {G : List Str} {H I : Hp} {Q : VK}
theorem bo_add {i j : Int} (q : Q (.int (i + j)) H) : BO X (binaryOp .Add) (.int i) (.int j) H Q := bO op_add ⟨_, _, rfl, rfl, q⟩
theorem bo_sub {i j : Int} (q : Q (.int (i - j)) H) : BO X (binaryOp .Sub) (.int i) (.int j) H Q := bO op_sub ⟨_, _, rfl, rfl, q⟩
theorem bo_mul {i j : Int} (h : (-(2 ^ 64) < i ∧ i < 2 ^ 64) ∨ (-(2 ^ 64) < j ∧ j < 2 ^ 64)) (q : Q (.int (i * j)) H) : BO X (binaryOp .Mult) (.int i) (.int j) H Q := bO op_mul ⟨_, _, rfl, rfl, h, q⟩
theorem bo_mod {i j : Int} (h : 0 < j) (q : Q (.int (i % j)) H) : BO X (binaryOp .Mod) (.int i) (.int j) H Q := bO op_mod ⟨_, _, rfl, rfl, h, q⟩
theorem bo_div {i j : Int} (h : 0 < j) (h2 : j < 2 ^ 64) (q : Q (.int (i / j)) H) : BO X (binaryOp .FloorDiv) (.int i) (.int j) H Q := bO op_fdivW ⟨_, _, rfl, rfl, wide_div (b := 64) h (by omega) (by decide) (by decide), q⟩
theorem bo_pow {i j : Int} (h : 0 ≤ j ∧ j ≤ 1000000 ∧ i.natAbs < 2 ^ 64) (q : Q (.int (i ^ j.toNat)) H) : BO X (binaryOp .Pow) (.int i) (.int j) H Q := bO op_pow ⟨_, _, rfl, rfl, h, q⟩
theorem bo_iadd {i j : Int} (q : Q (.int (i + j)) H) : BO X (inplaceOp .Add) (.int i) (.int j) H Q := bO iop_add ⟨_, _, rfl, rfl, q⟩
theorem bo_isub {i j : Int} (q : Q (.int (i - j)) H) : BO X (inplaceOp .Sub) (.int i) (.int j) H Q := bO iop_sub ⟨_, _, rfl, rfl, q⟩
theorem bo_lt {i j : Int} (q : Q (.bl (decide (i < j))) H) : BO X (compareOp .Lt) (.int i) (.int j) H Q := bO op_lt ⟨_, _, rfl, rfl, q⟩
theorem bo_le {i j : Int} (q : Q (.bl (decide (i ≤ j))) H) : BO X (compareOp .LtE) (.int i) (.int j) H Q := bO op_le ⟨_, _, rfl, rfl, q⟩
theorem bo_gt {i j : Int} (q : Q (.bl (decide (j < i))) H) : BO X (compareOp .Gt) (.int i) (.int j) H Q := bO op_gt ⟨_, _, rfl, rfl, q⟩
theorem bo_ge {i j : Int} (q : Q (.bl (decide (j ≤ i))) H) : BO X (compareOp .GtE) (.int i) (.int j) H Q := bO op_ge ⟨_, _, rfl, rfl, q⟩
theorem bo_eqI {i j : Int} (q : Q (.bl (decide (i = j))) H) : BO X (compareOp .Eq) (.int i) (.int j) H Q := bO op_eq ⟨rfl, by
  have : decide (V.int i = V.int j) = decide (i = j) := by rw [dec_int]; exact Bool.beq_eq_decide_eq i j
  rw [this]; exact q⟩
theorem bo_neI {i j : Int} (q : Q (.bl (!decide (i = j))) H) : BO X (compareOp .NotEq) (.int i) (.int j) H Q := bO op_ne ⟨rfl, by
  have : decide (V.int i = V.int j) = decide (i = j) := by rw [dec_int]; exact Bool.beq_eq_decide_eq i j
  rw [this]; exact q⟩
theorem bo_eqS {i j : Str} (q : Q (.bl (decide (i = j))) H) : BO X (compareOp .Eq) (.str i) (.str j) H Q := bO op_eq ⟨rfl, by
  have : decide (V.str i = V.str j) = decide (i = j) := by simp
  rw [this]; exact q⟩
theorem bo_neS {i j : Str} (q : Q (.bl (!decide (i = j))) H) : BO X (compareOp .NotEq) (.str i) (.str j) H Q := bO op_ne ⟨rfl, by
  have : decide (V.str i = V.str j) = decide (i = j) := by simp
  rw [this]; exact q⟩
theorem bo_eqB {i j : Bool} (q : Q (.bl (decide (i = j))) H) : BO X (compareOp .Eq) (.bl i) (.bl j) H Q := bO op_eq ⟨rfl, by
  have : decide (V.bl i = V.bl j) = decide (i = j) := by simp
  rw [this]; exact q⟩
theorem bo_neB {i j : Bool} (q : Q (.bl (!decide (i = j))) H) : BO X (compareOp .NotEq) (.bl i) (.bl j) H Q := bO op_ne ⟨rfl, by
  have : decide (V.bl i = V.bl j) = decide (i = j) := by simp
  rw [this]; exact q⟩
theorem bo_isN {x : V} (q : Q (.bl (decide (x = .non))) H) : BO X (compareOp .Is) x .non H Q := bO op_isN ⟨rfl, q⟩
theorem bo_notN {x : V} (q : Q (.bl (!decide (x = .non))) H) : BO X (compareOp .IsNot) x .non H Q := bO op_notN ⟨rfl, q⟩
theorem bo_eqD {k : Nat} {x y : V} {d e : PyData} (B : Bd Z X N sc M G) (hr : Room k X.A) (s : Same I H) (hx : Dp Z.K I x d) (hy : Dp Z.K I y e) (sd : SeqAt.shaped d = true) (se : SeqAt.shaped e = true) (q : Q (.bl (PyData.eqv d e)) H) : BO X (compareOp .Eq) x y H Q :=
  bO (op_eqD hr.units) ⟨d, e, by rw [B.K]; exact dp_mono s hx, by rw [B.K]; exact dp_mono s hy, sd, se, q⟩
theorem bo_neD {k : Nat} {x y : V} {d e : PyData} (B : Bd Z X N sc M G) (hr : Room k X.A) (s : Same I H) (hx : Dp Z.K I x d) (hy : Dp Z.K I y e) (sd : SeqAt.shaped d = true) (se : SeqAt.shaped e = true) (q : Q (.bl (!PyData.eqv d e)) H) : BO X (compareOp .NotEq) x y H Q :=
  bO (op_neD hr.units) ⟨d, e, by rw [B.K]; exact dp_mono s hx, by rw [B.K]; exact dp_mono s hy, sd, se, q⟩
theorem bo_cat {l b : Addr} {xs ys : List V} (hx : H l = some (.lst xs)) (hy : H b = some (.lst ys)) (hl : xs.length + ys.length ≤ 16777216) (q : ∀ a, H a = none → Q (.ref a) (upd H a (.lst (xs ++ ys)))) : BO X (binaryOp .Add) (.ref l) (.ref b) H Q :=
  bO op_cat ⟨l, b, xs, ys, rfl, rfl, hx, hy, le_line hl, q⟩
theorem bo_rep {l : Addr} {xs : List V} {k : Int} (hx : H l = some (.lst xs)) (hk : -(2 ^ 63) ≤ k ∧ k < 2 ^ 63) (hl : xs.length * k.toNat ≤ 16777216) (q : ∀ a, H a = none → Q (.ref a) (upd H a (.lst (List.flatten (List.replicate k.toNat xs))))) : BO X (binaryOp .Mult) (.ref l) (.int k) H Q := by
  refine bO op_rep ⟨l, k, xs, rfl, rfl, hx, hk.1, hk.2, le_line hl, ?_⟩
  first | exact q | (intro p hp; have := q p hp; simpa using this)
/-- subscripts -/
theorem io_lst {a : Addr} {xs : List V} {i : Int} {v : V} (h : H a = some (.lst xs)) (hi : atI xs i = some v) (q : Q v H) : IO X (.ref a) (.int i) H Q := iO ix_list ⟨a, xs, i, v, rfl, rfl, .inl (.inl h), hi, q⟩
theorem io_tpl {a : Addr} {xs : List V} {i : Int} {v : V} (h : H a = some (.tup xs)) (hi : atI xs i = some v) (q : Q v H) : IO X (.ref a) (.int i) H Q := iO ix_tup ⟨a, xs, i, v, rfl, rfl, .inl (.inl h), hi, q⟩
theorem atI_ix {α : Type} {xs : List α} {i : Int} {v : α} (h : atI xs i = some v) : ∃ j : Nat, ixN xs.length i = some j ∧ xs[j]? = some v := by
  unfold atI at h
  cases e : ixN xs.length i with
  | none => rw [e] at h; cases h
  | some j => rw [e] at h; exact ⟨j, rfl, h⟩
theorem atI_of {α : Type} {xs : List α} {i : Int} {v : α} {j : Nat} (e : ixN xs.length i = some j) (h : xs[j]? = some v) : atI xs i = some v := by unfold atI; rw [e]; exact h
theorem io_L {x : V} {ds : List PyData} {d : PyData} {i : Int} (B : Bd Z X N sc M G) (s : Same I H) (hx : Dp Z.K I x (.list ds)) (hi : atI ds i = some d) (q : ∀ v, Dp Z.K I v d → Q v H) : IO X x (.int i) H Q := by
  obtain ⟨a, xs, rfl, h, t⟩ := hx.list_inv
  obtain ⟨j, e1, e2⟩ := atI_ix hi
  obtain ⟨v, e3, e4⟩ := t.get e2
  exact iO ix_list ⟨a, xs, i, v, rfl, rfl, by rw [B.K]; exact s.seq h, atI_of (by rw [t.len]; exact e1) e3, q v e4⟩
theorem io_T {x : V} {ds : List PyData} {d : PyData} {i : Int} (B : Bd Z X N sc M G) (s : Same I H) (hx : Dp Z.K I x (.tuple ds)) (hi : atI ds i = some d) (q : ∀ v, Dp Z.K I v d → Q v H) : IO X x (.int i) H Q := by
  obtain ⟨a, xs, rfl, h, t⟩ := hx.tup_inv
  obtain ⟨j, e1, e2⟩ := atI_ix hi
  obtain ⟨v, e3, e4⟩ := t.get e2
  exact iO ix_tup ⟨a, xs, i, v, rfl, rfl, by rw [B.K]; exact Same.sqT s h, atI_of (by rw [t.len]; exact e1) e3, q v e4⟩
theorem so_lst {a : Addr} {xs : List V} {lo hi : Option Int} (h : H a = some (.lst xs)) (q : ∀ p, H p = none → Q (.ref p) (upd H p (.lst (cutV xs lo hi)))) : SO X (.ref a) lo hi H Q := sO sl_list ⟨a, xs, rfl, .inl (.inl h), q⟩
theorem so_L {x : V} {ds : List PyData} {lo hi : Option Int} (B : Bd Z X N sc M G) (s : Same I H) (hx : Dp Z.K I x (.list ds)) (q : ∀ p xs, H p = none → DpAll Z.K I xs ds → Q (.ref p) (upd H p (.lst (cutV xs lo hi)))) : SO X x lo hi H Q := by
  obtain ⟨a, xs, rfl, h, t⟩ := hx.list_inv
  exact sO sl_list ⟨a, xs, rfl, by rw [B.K]; exact s.seq h, fun p hp => q p xs hp t⟩
theorem se_lst {a : Addr} {xs ys : List V} {k : Int} {j : Nat} {v : V} {R : Hp → Prop} (h : H a = some (.lst xs)) (hj : ixN xs.length k = some j) (e : xs.set j v = ys) (q : R (upd H a (.lst ys))) : SE X (.ref a) (.int k) v H R := by
  subst e
  exact sE set_list ⟨a, xs, k, j, rfl, rfl, h, hj, q⟩
/-- built-ins -/
theorem co_len {x : V} {ds : List PyData} (B : Bd Z X N sc M G) (s : Same I H) (hx : Dp Z.K I x (.list ds) ∨ Dp Z.K I x (.tuple ds)) (q : Q (.int ds.length) H) : CO X (.builtin "len") [x] H Q := by
  rcases hx with hx | hx
  · obtain ⟨a, xs, rfl, h, t⟩ := hx.list_inv
    exact cO call_len_seq ⟨a, xs, rfl, .inl (by rw [B.K]; exact s.seq h), by rw [t.len]; exact q⟩
  · obtain ⟨a, xs, rfl, h, t⟩ := hx.tup_inv
    exact cO call_len_seq ⟨a, xs, rfl, .inr (by rw [B.K]; exact Same.sqT s h), by rw [t.len]; exact q⟩
theorem co_lenL {a : Addr} {xs : List V} (h : H a = some (.lst xs)) (q : Q (.int xs.length) H) : CO X (.builtin "len") [.ref a] H Q := cO call_len_seq ⟨a, xs, rfl, .inl (.inl (.inl h)), q⟩
theorem co_int {i : Int} (q : Q (.int i) H) : CO X (.type "int") [.int i] H Q := cO call_int1 (.inl ⟨_, rfl, q⟩)
theorem co_intB {b : Bool} (q : Q (.int (if b then 1 else 0)) H) : CO X (.type "int") [.bl b] H Q := cO call_int1 (.inr ⟨_, rfl, q⟩)
theorem co_max {i j : Int} (B : Bd Z X N sc M G) (q : Q (.int (max i j)) H) : CO X (.builtin "max") [.int i, .int j] H Q := by
  refine cO (call_max2 B.calm) ⟨i, j, rfl, ?_⟩
  have : (if j > i then j else i) = max i j := by split <;> omega
  rw [this]; exact q
theorem co_min {i j : Int} (B : Bd Z X N sc M G) (q : Q (.int (min i j)) H) : CO X (.builtin "min") [.int i, .int j] H Q := by
  refine cO (call_min2 B.calm) ⟨i, j, rfl, ?_⟩
  have : (if j < i then j else i) = min i j := by split <;> omega
  rw [this]; exact q
theorem co_sum {x : V} {ns : List Int} (B : Bd Z X N sc M G) (s : Same I H) (hx : Dp Z.K I x (dI ns)) (q : Q (.int ns.sum) H) : CO X (.builtin "sum") [x] H Q := by
  obtain ⟨a, rfl, h⟩ := dI_inv hx
  exact cO (cr_sum B.calm) ⟨a, ns, rfl, by rw [B.K]; exact s.seq h, q⟩
theorem co_list {x : V} {ds : List PyData} (B : Bd Z X N sc M G) (s : Same I H) (hx : Dp Z.K I x (.list ds) ∨ Dp Z.K I x (.tuple ds)) (q : ∀ l vs, H l = none → DpAll Z.K I vs ds → Q (.ref l) (upd H l (.lst vs))) : CO X (.type "list") [x] H Q := by
  rcases hx with hx | hx
  · obtain ⟨a, xs, rfl, h, t⟩ := hx.list_inv
    exact cO call_list_of ⟨a, xs, rfl, .inl (by rw [B.K]; exact s.seq h), fun l hl => q l xs hl t⟩
  · obtain ⟨a, xs, rfl, h, t⟩ := hx.tup_inv
    exact cO call_list_of ⟨a, xs, rfl, .inr (by rw [B.K]; exact Same.sqT s h), fun l hl => q l xs hl t⟩
theorem co_listL {a : Addr} {xs : List V} (h : H a = some (.lst xs)) (q : ∀ l, H l = none → Q (.ref l) (upd H l (.lst xs))) : CO X (.type "list") [.ref a] H Q := cO call_list_of ⟨a, xs, rfl, .inl (.inl (.inl h)), q⟩
theorem co_tuple {x : V} {ds : List PyData} (B : Bd Z X N sc M G) (s : Same I H) (hx : Dp Z.K I x (.list ds)) (q : ∀ l vs, H l = none → DpAll Z.K I vs ds → Q (.ref l) (upd H l (.tup vs))) : CO X (.type "tuple") [x] H Q := by
  obtain ⟨a, xs, rfl, h, t⟩ := hx.list_inv
  exact cO call_tuple_of ⟨a, xs, rfl, .inl ⟨by rw [B.K]; exact s.seq h, fun l hl => q l xs hl t⟩⟩
theorem co_tupleL {a : Addr} {xs : List V} (h : H a = some (.lst xs)) (q : ∀ l, H l = none → Q (.ref l) (upd H l (.tup xs))) : CO X (.type "tuple") [.ref a] H Q := cO call_tuple_of ⟨a, xs, rfl, .inl ⟨.inl (.inl h), q⟩⟩
theorem co_all {a : Addr} {bs : List Bool} (B : Bd Z X N sc M G) (h : H a = some (.lst (bs.map V.bl))) (q : Q (.bl (bs.all id)) H) : CO X (.builtin "all") [.ref a] H Q := cO (cr_all B.calm) ⟨a, bs, rfl, .inl (.inl h), q⟩
theorem co_any {a : Addr} {bs : List Bool} (B : Bd Z X N sc M G) (h : H a = some (.lst (bs.map V.bl))) (q : Q (.bl (bs.any id)) H) : CO X (.builtin "any") [.ref a] H Q := cO (cr_any B.calm) ⟨a, bs, rfl, .inl (.inl h), q⟩
/-- isinstance with a built-in class -/
def tyN : PyData → String
  | .none => "NoneType" | .bool _ => "bool" | .int _ => "int" | .str _ => "str" | .list _ => "list" | .tuple _ => "tuple" | .dict _ => "dict"
theorem tyX_of {x : V} {d : PyData} {K : PySem.W.Frag} (h : Dp K H x d) : TyX K H x (.type (tyN d)) := by
  cases h with
  | non => exact .base .non
  | bl b => exact .base (.bl b)
  | int i => exact .base (.int i)
  | str z => exact .base (.str z)
  | lst h _ =>
    rcases h with (h | ⟨o, h⟩) | ⟨o, _, _, h1, h2, _⟩
    · exact .base (.lst h)
    · exact .base (.frz h)
    · exact .kList h1 h2
  | tup h _ =>
    rcases h with (h | ⟨o, h⟩) | ⟨o, _, _, h1, h2, _⟩
    · exact .base (.tup h)
    · exact .fTuple h
    · exact .kTuple h1 h2
theorem co_isi {x : V} {d : PyData} {T : String} {r : Bool} (B : Bd Z X N sc M G) (s : Same I H) (hx : Dp Z.K I x d) (hk : kitB (tyN d) T = some r) (q : Q (.bl r) H) : CO X (.builtin "isinstance") [x, .ty T] H Q :=
  cO call_isi ⟨x, .ty T, _, _, r, rfl, .ty T, tyX_of (by rw [B.K]; exact dp_mono s hx), kit_ty hk, q⟩
/-- methods of lists -/
theorem mo_append {l : Addr} {xs : List V} {y : V} (h : H l = some (.lst xs)) (hz : xs.length < 16777216) (q : Q .non (upd H l (.lst (xs ++ [y])))) : MO X "list.append" (.ref l) [y] H Q := mO mt_append ⟨l, xs, y, rfl, rfl, h, lt_line hz, q⟩
theorem mo_extend {l b : Addr} {xs zs : List V} (h : H l = some (.lst xs)) (h2 : H b = some (.lst zs)) (hz : xs.length + zs.length ≤ 16777216) (q : Q .non (upd H l (.lst (xs ++ zs)))) : MO X "list.extend" (.ref l) [.ref b] H Q := mO mt_extend ⟨l, b, xs, zs, rfl, rfl, h, h2, le_line hz, q⟩
theorem mo_pop {l : Addr} {xs : List V} {y : V} (h : H l = some (.lst xs)) (hy : xs[xs.length - 1]? = some y) (q : Q y (upd H l (.lst xs.dropLast))) : MO X "list.pop" (.ref l) [] H Q := mO mt_pop ⟨l, xs, y, rfl, rfl, h, hy, q⟩
theorem mo_popAt {l : Addr} {xs : List V} {i : Int} {k : Nat} {y : V} (h : H l = some (.lst xs)) (hi : -(2 ^ 63) ≤ i ∧ i < 2 ^ 63) (hk : seqIndex? i xs.length = some k) (hy : xs[k]? = some y) (q : Q y (upd H l (.lst (xs.eraseIdx k)))) : MO X "list.pop" (.ref l) [.int i] H Q :=
  mO mt_popAt ⟨l, xs, i, k, y, rfl, rfl, h, hi.1, hi.2, hk, hy, q⟩
end vo
end Y

namespace Y
open PySem PySem.Spec PyProof.Rows L2
/-! ### the built-in names that the text does not take -/
structure Std (Z : Wd) : Prop where
  isinstance : Z.mg "isinstance" = none
  int : Z.mg "int" = none
  bool : Z.mg "bool" = none
  str : Z.mg "str" = none
  len : Z.mg "len" = none
  list : Z.mg "list" = none
  tuple : Z.mg "tuple" = none
  dict : Z.mg "dict" = none
  range : Z.mg "range" = none
  enumerate : Z.mg "enumerate" = none
  zip : Z.mg "zip" = none
  sum : Z.mg "sum" = none
  all : Z.mg "all" = none
  any : Z.mg "any" = none
  max : Z.mg "max" = none
  min : Z.mg "min" = none
  abs : Z.mg "abs" = none
  repr : Z.mg "repr" = none
  sorted : Z.mg "sorted" = none
  set : Z.mg "set" = none
  valueError : Z.mg "ValueError" = none
theorem b_isinstance : bootBuiltins "isinstance" = some (.builtin "isinstance") := by decide +kernel
theorem b_len : bootBuiltins "len" = some (.builtin "len") := by decide +kernel
theorem b_sum : bootBuiltins "sum" = some (.builtin "sum") := by decide +kernel
theorem b_all : bootBuiltins "all" = some (.builtin "all") := by decide +kernel
theorem b_any : bootBuiltins "any" = some (.builtin "any") := by decide +kernel
theorem b_max : bootBuiltins "max" = some (.builtin "max") := by decide +kernel
theorem b_min : bootBuiltins "min" = some (.builtin "min") := by decide +kernel
theorem b_abs : bootBuiltins "abs" = some (.builtin "abs") := by decide +kernel
theorem b_repr : bootBuiltins "repr" = some (.builtin "repr") := by decide +kernel
theorem b_sorted : bootBuiltins "sorted" = some (.builtin "sorted") := by decide +kernel
theorem b_int : bootBuiltins "int" = some (.type "int") := by decide +kernel
theorem b_bool : bootBuiltins "bool" = some (.type "bool") := by decide +kernel
theorem b_str : bootBuiltins "str" = some (.type "str") := by decide +kernel
theorem b_list : bootBuiltins "list" = some (.type "list") := by decide +kernel
theorem b_tuple : bootBuiltins "tuple" = some (.type "tuple") := by decide +kernel
theorem b_dict : bootBuiltins "dict" = some (.type "dict") := by decide +kernel
theorem b_set : bootBuiltins "set" = some (.type "set") := by decide +kernel

def isIntB : PyData → Bool | .int _ => true | .bool _ => true | _ => false
def isBoolB : PyData → Bool | .bool _ => true | _ => false
def isListB : PyData → Bool | .list _ => true | _ => false
def isTupB : PyData → Bool | .tuple _ => true | _ => false
def isStrB : PyData → Bool | .str _ => true | _ => false
theorem kit_int (d : PyData) : kitB (tyN d) "int" = some (isIntB d) := by
  cases d with
  | none => exact (by decide +kernel : kitB "NoneType" "int" = some false)
  | bool _ => exact (by decide +kernel : kitB "bool" "int" = some true)
  | int _ => exact (by decide +kernel : kitB "int" "int" = some true)
  | str _ => exact (by decide +kernel : kitB "str" "int" = some false)
  | list _ => exact (by decide +kernel : kitB "list" "int" = some false)
  | tuple _ => exact (by decide +kernel : kitB "tuple" "int" = some false)
  | dict _ => exact (by decide +kernel : kitB "dict" "int" = some false)
theorem kit_bool (d : PyData) : kitB (tyN d) "bool" = some (isBoolB d) := by
  cases d with
  | none => exact (by decide +kernel : kitB "NoneType" "bool" = some false)
  | bool _ => exact (by decide +kernel : kitB "bool" "bool" = some true)
  | int _ => exact (by decide +kernel : kitB "int" "bool" = some false)
  | str _ => exact (by decide +kernel : kitB "str" "bool" = some false)
  | list _ => exact (by decide +kernel : kitB "list" "bool" = some false)
  | tuple _ => exact (by decide +kernel : kitB "tuple" "bool" = some false)
  | dict _ => exact (by decide +kernel : kitB "dict" "bool" = some false)
theorem kit_list (d : PyData) : kitB (tyN d) "list" = some (isListB d) := by
  cases d with
  | none => exact (by decide +kernel : kitB "NoneType" "list" = some false)
  | bool _ => exact (by decide +kernel : kitB "bool" "list" = some false)
  | int _ => exact (by decide +kernel : kitB "int" "list" = some false)
  | str _ => exact (by decide +kernel : kitB "str" "list" = some false)
  | list _ => exact (by decide +kernel : kitB "list" "list" = some true)
  | tuple _ => exact (by decide +kernel : kitB "tuple" "list" = some false)
  | dict _ => exact (by decide +kernel : kitB "dict" "list" = some false)
theorem kit_tup (d : PyData) : kitB (tyN d) "tuple" = some (isTupB d) := by
  cases d with
  | none => exact (by decide +kernel : kitB "NoneType" "tuple" = some false)
  | bool _ => exact (by decide +kernel : kitB "bool" "tuple" = some false)
  | int _ => exact (by decide +kernel : kitB "int" "tuple" = some false)
  | str _ => exact (by decide +kernel : kitB "str" "tuple" = some false)
  | list _ => exact (by decide +kernel : kitB "list" "tuple" = some false)
  | tuple _ => exact (by decide +kernel : kitB "tuple" "tuple" = some true)
  | dict _ => exact (by decide +kernel : kitB "dict" "tuple" = some false)
theorem kit_str (d : PyData) : kitB (tyN d) "str" = some (isStrB d) := by
  cases d with
  | none => exact (by decide +kernel : kitB "NoneType" "str" = some false)
  | bool _ => exact (by decide +kernel : kitB "bool" "str" = some false)
  | int _ => exact (by decide +kernel : kitB "int" "str" = some false)
  | str _ => exact (by decide +kernel : kitB "str" "str" = some true)
  | list _ => exact (by decide +kernel : kitB "list" "str" = some false)
  | tuple _ => exact (by decide +kernel : kitB "tuple" "str" = some false)
  | dict _ => exact (by decide +kernel : kitB "dict" "str" = some false)
section
variable {Z : Wd} {X : Cx} {N : List Str} {sc : Scope} {M : Msk} {G : List Str} {σ : L2.St} {H I : Hp} {Q : VK} {p : Pos} {x : V} {d : PyData}
theorem isi_int (B : Bd Z X N sc M G) (s : Same I H) (hx : Dp Z.K I x d) (q : Q (.bl (isIntB d)) H) : CO X (.builtin "isinstance") [x, .ty "int"] H Q := co_isi B s hx (kit_int d) q
theorem isi_bool (B : Bd Z X N sc M G) (s : Same I H) (hx : Dp Z.K I x d) (q : Q (.bl (isBoolB d)) H) : CO X (.builtin "isinstance") [x, .ty "bool"] H Q := co_isi B s hx (kit_bool d) q
theorem isi_list (B : Bd Z X N sc M G) (s : Same I H) (hx : Dp Z.K I x d) (q : Q (.bl (isListB d)) H) : CO X (.builtin "isinstance") [x, .ty "list"] H Q := co_isi B s hx (kit_list d) q
theorem isi_tup (B : Bd Z X N sc M G) (s : Same I H) (hx : Dp Z.K I x d) (q : Q (.bl (isTupB d)) H) : CO X (.builtin "isinstance") [x, .ty "tuple"] H Q := co_isi B s hx (kit_tup d) q
theorem isi_str (B : Bd Z X N sc M G) (s : Same I H) (hx : Dp Z.K I x d) (q : Q (.bl (isStrB d)) H) : CO X (.builtin "isinstance") [x, .ty "str"] H Q := co_isi B s hx (kit_str d) q
theorem we_ty {x : Str} {T : String} (B : Bd Z X N sc M G) (hg : x ∈ G) (hm : Z.mg x = none) (hv : bootBuiltins x = some (.type T)) (q : Q (.ty T) H) : WE X (.Name x p) σ H Q := we_bltn (v := .ty T) B hg hm hv rfl q
theorem ifd {P : Prop} [Decidable P] {A C : Prop} (h1 : P → A) (h2 : ¬ P → C) : if decide P = true then A else C := by
  by_cases h : P
  · rw [if_pos (decide_eq_true h)]; exact h1 h
  · rw [if_neg (by rw [decide_eq_false h]; decide)]; exact h2 h
theorem ifnd {P : Prop} [Decidable P] {A C : Prop} (h1 : ¬ P → A) (h2 : P → C) : if (!decide P) = true then A else C := by
  by_cases h : P
  · rw [decide_eq_true h]; exact iteF (h2 h)
  · rw [decide_eq_false h]; exact iteT (h1 h)
theorem ifb {b : Bool} {A C : Prop} (h1 : b = true → A) (h2 : b = false → C) : if b = true then A else C := by
  cases b with
  | true => exact iteT (h1 rfl)
  | false => exact iteF (h2 rfl)
theorem ifnb {b : Bool} {A C : Prop} (h1 : b = false → A) (h2 : b = true → C) : if (!b) = true then A else C := by
  cases b with
  | true => exact iteF (h2 rfl)
  | false => exact iteT (h1 rfl)
end
end Y

namespace Y
open PySem PySem.Spec PyProof.Rows L2
/-! ### enumerate(xs, start=k) -/
/-- the list at a as it stands at each turn, counted from k -/
def IteS (K : PySem.W.Frag) (a : Addr) (k : Int) : It :=
  ⟨fun i H => ∃ (xs : List V) (x : V), SqL K H a xs ∧ xs[i]? = some x, fun i H v H' => ∃ T x, v = .ref T ∧ H T = none ∧ H' = upd H T (.tup [.int (k + (i : Nat)), x]) ∧ ∀ xs, SqL K H a xs → xs[i]? = some x, fun i H => ∃ xs : List V, SqL K H a xs ∧ xs.length = i⟩
theorem iter_ne {h : Heap} {a it : Addr} {i : Nat} {its : Array Value} (h1 : h.IsListIter it a i) (h2 : h.IsList a its) : a ≠ it := fun e => by
  obtain ⟨o, e1, c1, _⟩ := h1
  obtain ⟨o2, e2, c2, _⟩ := h2
  rw [e] at e2
  rw [e1] at e2
  cases e2
  rw [c1] at c2
  exact absurd c2 (by decide)
theorem turn_enumS {P : Program} {w : World} {K : PySem.W.Frag} {elts : List Expr} {kk : Nat} {tpos : Pos} (a e it : Addr) (k : Int) :
    Turn P w K (.Tuple elts kk tpos) (IteS K a k) [e, it] e (fun i h => (∃ old, IsEnum h e it (k + (i : Nat)) old) ∧ h.IsListIter it a i ∧ e ≠ it) where
  mem := by simp
  obj := fun i h st b hb => by
    obtain ⟨⟨old, he⟩, ⟨o, ho, hc, hd⟩, _⟩ := st
    have e' : b = e ∨ b = it := by simpa using hb
    rcases e' with z | z
    · rw [z]; exact ⟨_, he, fun v q => nomatch q⟩
    · rw [z]; exact ⟨o, ho, fun v q => by rw [hd] at q; cases q⟩
  keep := fun i h h' st kp => by
    obtain ⟨⟨old, he⟩, hi, hne⟩ := st
    exact ⟨⟨old, kp e (by simp) _ he⟩, hi.at fun o q => kp it (by simp) o q, hne⟩
  item := by
    intro X hP hw hK hc i pins s σ H E I hf st hg
    subst hP hw hK
    obtain ⟨⟨old, he⟩, hit, hne⟩ := st
    obtain ⟨xs, x, hq, hx⟩ := hg
    obtain ⟨its, rv, p, hz⟩ := I.list hq
    obtain ⟨u, hu, ru⟩ := rv.get hx
    have hel : e < s.heap.objs.size := Heap.lt_size he
    have hil : it < s.heap.objs.size := by obtain ⟨_, q, _⟩ := hit; exact Heap.lt_size q
    have hal := iter_ne hit p.isList
    have D := Draws.list (prog := X.prog) (w := X.w) (A := X.A.in1) (I.ok.hd hc) it a hal its.toArray
    have hea : e ∉ [it, a] := by
      intro hm
      have hm' : e = it ∨ e = a := by simpa using hm
      rcases hm' with z | z
      · exact hne z
      · obtain ⟨o2, e2, c2, _⟩ := p.isList
        rw [← z, he] at e2
        cases e2
        have c3 : Value.type "enumerate" = Value.type "list" := c2
        exact absurd c3 (by decide)
    have hlt : i < its.toArray.size := by
      have := (List.getElem?_eq_some_iff.mp hu).1
      simpa using this
    refine wpAny_pyNext_enum_itemC D he ⟨hit, p.isList⟩ hlt hne hea fun x' h' tk hP' ho hst' hT hsz hk => ?_
    have hx' : x' = u := by
      have h9 : its[i]? = some x' := by simpa using hP'
      rw [hu] at h9; exact (Option.some.inj h9).symm
    subst hx'
    refine ⟨_, rfl, wpAny_letOwnedTupleGo_enum (s := { s with heap := h', toks := tk + 1 }) ho fun h'' he' sb => ?_⟩
    have hT2 : h''.get? s.heap.objs.size = some { cls := .type "tuple", data := .seq #[.int (k + (i : Nat)) tk, x'] } := (sb.2 _ (Nat.ne_of_gt hel)).trans hT
    have new : ObjOk X.prog X.w (upd H s.heap.objs.size (.tup [.int (k + (i : Nat)), x])) h'' s.heap.objs.size (.tup [.int (k + (i : Nat)), x]) :=
      ⟨le_line (by show 2 ≤ 16777216; decide), [.int (k + (i : Nat)) tk, x'], .cons ⟨_, rfl⟩ (.cons ru .nil), ⟨_, hT2, rfl, _, rfl⟩⟩
    have I1 : Inv X pins σ (upd H s.heap.objs.size (.tup [.int (k + (i : Nat)), x])) { s with heap := h'', toks := tk + 1 } :=
      I.turnedNew (ch := [e, it]) (fun b ob hb q => (sb.2 b (fun z => hb (by rw [z]; simp))).trans (hk b ob (fun z => hb (by rw [z]; simp)) (fun z => hb (by rw [z]; simp)) q)) hf (Nat.le_refl _) new
    refine ⟨.ref s.heap.objs.size, _, I1, rfl, ⟨_, x, rfl, I.hok.fresh (Nat.le_refl _), rfl, fun ys hy => by rw [I.list_inj hy hq]; exact hx⟩, ⟨⟨x', ?_⟩, hst'.1.at fun o q => (sb.2 it (Ne.symm hne)).trans q, hne⟩, fun b hb => ?_⟩
    · have e1 : k + ((i + 1 : Nat) : Int) = k + (i : Int) + 1 := by omega
      rw [e1]; exact he'
    · have hb' : b < s.heap.objs.size := by
        have e' : b = e ∨ b = it := by simpa using hb
        rcases e' with z | z
        · rw [z]; exact hel
        · rw [z]; exact hil
      rw [upd_ne (Nat.ne_of_lt hb')]
      exact (hf b hb).1
  done := by
    intro X hP hw hK hc i pins s σ H E I hf st hg
    subst hP hw hK
    obtain ⟨⟨old, he⟩, hit, hne⟩ := st
    obtain ⟨xs, hq, hx⟩ := hg
    obtain ⟨its, rv, p, hz⟩ := I.list hq
    obtain ⟨f0, f1, f2, f3, f4, f5⟩ := hf it (by simp)
    have hl := rv.length
    have hal := iter_ne hit p.isList
    have D := Draws.list (prog := X.prog) (w := X.w) (A := X.A.in1) (I.ok.hd hc) it a hal its.toArray
    have hi : i = its.toArray.size := by simp; omega
    subst hi
    exact wpAny_pyNext_enum_endD D he ⟨hit, p.isList⟩ fun h' eb => ⟨rfl, I.turned (t' := s.toks) (fun b o hb q => eb b o hb q) f0 f1 f3 f4 f5⟩
  self := fun A i s Q E st h => by
    obtain ⟨⟨_, he⟩, _⟩ := st
    exact wpAny_pyIter_enum he h
section
variable {Z : Wd} {X : Cx} {N : List Str} {sc scope : Scope} {M : Msk} {G : List Str} {σ : L2.St} {H : Hp} {D : Ends} {p : Pos} {tg iter elt : Expr} {ifs : List Expr} {body : List Stmt} {vs : List Nat} {Q : VK}
/-- a call of a built-in type with keywords -/
theorem callTyKw {M : Model} {A : Around} {E : Value → Shared → Prop} {s : Shared} {T : String} {e : Expr} {rest : List Expr} {kws : List Keyword} {env : Env} {pos : Pos} {Q : Value → Shared → Prop}
    (h : wpAny M A (spliced (backTo pos (starEach (e :: rest) env))) (fun vs s₁ => wpAny M A (evalAll ((backToKw pos (keywordEach kws env)).map (·.2))) (fun ks s₂ => wpAny M A (call (.type T) vs (((backToKw pos (keywordEach kws env)).filterMap (·.1)).zip ks)) Q E s₂) E s₁) E s)
    (hall : (backToKw pos (keywordEach kws env)).all (·.1.isSome) = true) (hpl : ((backTo pos (starEach (e :: rest) env)).any (·.1) || (backToKw pos (keywordEach kws env)).any (·.1.isNone)) = false) (he : starEach (e :: rest) env = (false, eval e env) :: starEach rest env) :
    wpAny M A (callWith pos (.type T) [] (backTo pos (starEach (e :: rest) env)) (backToKw pos (keywordEach kws env))) Q E s := by
  refine PySem.W.callWith_of (P := fun _ => True) hpl (fun h _ => ⟨.machine, .inr (.inl rfl), .now⟩) (evalArgs_kw2 hall (wpAny_mono h (fun vs s1 h1 => wpAny_mono h1 (fun ks s2 h2 => ⟨True.intro, ?_⟩) fun _ _ x => x) fun _ _ x => x) he)
  exact h2
theorem wi_enumS {e ek : Expr} {pf pc tp pk : Pos} {elts : List Expr} {kk : Nat} {R : It → Hp → Prop} (B : Bd Z X N sc M G) (hg : ("enumerate" : Str) ∈ G) (hm : Z.mg "enumerate" = none)
    (q : WE X e σ H fun v H1 => WE X ek σ H1 fun w H2 => ∃ a xs k, v = .ref a ∧ w = .int k ∧ (-(2 ^ 63) ≤ k ∧ k < 2 ^ 63) ∧ SqL X.K H2 a xs ∧ R (IteS X.K a k) H2) (hs : starEach [e] X.env = (false, eval e X.env) :: starEach [] X.env := by with_unfolding_all rfl)
    (hall : (backToKw pc (keywordEach [⟨some "start", ek, pk⟩] X.env)).all (·.1.isSome) = true := by with_unfolding_all rfl) (hks : (backToKw pc (keywordEach [⟨some "start", ek, pk⟩] X.env)).filterMap (·.1) = [Str.ofString "start"] := by with_unfolding_all rfl)
    (hpl : ((backTo pc (starEach [e] X.env)).any (·.1) || (backToKw pc (keywordEach [⟨some "start", ek, pk⟩] X.env)).any (·.1.isNone)) = false := by with_unfolding_all rfl) :
    WI X (.Tuple elts kk tp) (.Call (.Name "enumerate" pf) [e] [⟨some "start", ek, pk⟩] pc) σ H R := by
  obtain ⟨e1, _, _⟩ := B.gl _ hg
  intro pins s I
  have wa : WA X [e] σ H fun vs H1 => WK X [⟨some "start", ek, pk⟩] σ H1 fun zs H2 => ∃ a xs k, vs = [.ref a] ∧ zs = [.int k] ∧ (-(2 ^ 63) ≤ k ∧ k < 2 ^ 63) ∧ SqL X.K H2 a xs ∧ R (IteS X.K a k) H2 :=
    wa_cons (q.imp fun v H1 q1 => wa_nil (wk_cons (q1.imp fun w H2 ⟨a, xs, k, ev, ew, hk, h, r⟩ => wk_nil ⟨a, xs, k, by rw [ev], by rw [ew], hk, h, r⟩))) hs
  refine wpAny_Call_Name_kw (ld_blt I e1 (by rw [B.mg]; exact hm) boot_enumerate ?_)
  refine callTyKw (thn (wa pc pins s I) fun us s1 ⟨vs, H1, I1, r1, q1⟩ => thn (q1 pc pins s1 I1) fun ks s2 ⟨zs, H2, I2, r2, a, xs, k, ev, ez, hk, hq, q⟩ => ?_) hall hpl hs
  subst ev ez
  rw [hks]
  cases r1 with
  | cons r rr =>
    cases rr
    cases r
    cases r2 with
    | cons r' rr =>
      cases rr
      obtain ⟨t, rfl⟩ := r'
      obtain ⟨its, rv, p', hz⟩ := I2.list hq
      refine enum_begins_start (begins_list a its.toArray) p'.isList hk.1 hk.2 fun h' he hit hsz hkp => wpAny_pyIter_enum he ?_
      have I3 : Inv X pins σ H2 { s2 with heap := h' } := I2.kept (t' := s2.toks) hkp
      refine ⟨s2.heap.objs.size + 1, [s2.heap.objs.size + 1, s2.heap.objs.size], _, _, H2, rfl, I3, turn_enumS a (s2.heap.objs.size + 1) s2.heap.objs.size k, ⟨⟨.none, ?_⟩, ⟨_, hit, rfl, rfl⟩, Nat.succ_ne_self _⟩, fun b hb => ?_, q⟩
      · have e0 : k + ((0 : Nat) : Int) = k := by omega
        rw [e0]; exact he
      · have e' : b = s2.heap.objs.size + 1 ∨ b = s2.heap.objs.size := by simpa using hb
        have hle : s2.heap.objs.size ≤ b := by
          rcases e' with z | z
          · rw [z]; exact Nat.le_add_right _ _
          · rw [z]; exact Nat.le_refl _
        exact I2.fpOk hle (I2.hok.fresh hle)
theorem fi_enumS {a : Addr} {k : Int} {xs : List V} (Pv : Nat → List V → L2.St → Hp → Prop) (h0 : Pv 0 xs σ H) (hl : ∀ i r σ H, Pv i r σ H → SqL X.K H a xs)
    (hs : ∀ i x r σ H T, Pv i (x :: r) σ H → H T = none → WG X tg (.ref T) σ (upd H T (.tup [.int (k + (i : Nat)), x])) fun σ2 H2 => WSs X body { D with nx := Pv (i + 1) r, ct := Pv (i + 1) r, bk := D.nx } σ2 H2)
    (hd : ∀ i σ H, Pv i [] σ H → D.nx σ H) : FI X (IteS X.K a k) tg body D σ H := by
  refine ⟨fun i m σ H => m = xs.length - i ∧ i ≤ xs.length ∧ Pv i (xs.drop i) σ H, ⟨xs.length, rfl, Nat.zero_le _, h0⟩, ?_⟩
  rintro i m σ H ⟨rfl, hi, pv⟩
  have q := hl _ _ σ H pv
  by_cases hlt : i < xs.length
  · refine .inr ⟨⟨xs, xs[i], q, by simp [hlt]⟩, Pv (i + 1) (xs.drop (i + 1)), fun σ' H' p' => ⟨xs.length - (i + 1), by omega, rfl, hlt, p'⟩, fun x H' y => ?_⟩
    obtain ⟨T, x', rfl, hT, rfl, y⟩ := y
    have hx := y xs q
    rw [List.getElem?_eq_getElem hlt] at hx
    cases hx
    rw [List.drop_eq_getElem_cons hlt] at pv
    exact hs i _ _ σ _ T pv hT
  · have e : i = xs.length := by omega
    subst e
    rw [List.drop_length] at pv
    exact .inl ⟨⟨xs, q, rfl⟩, hd _ σ H pv⟩
/-- a target that is a pair of names -/
theorem wg_pair {y z : Str} {py pz pt : Pos} {n : Nat} {T : Addr} {x1 x2 : V} {σ1 σ2 : L2.St} {R : L2.St → Hp → Prop} (B : Bd Z X N sc M G) (hT : H T = some (.tup [x1, x2])) (hu : Up2 M σ y x1 σ1) (hu2 : Up2 M σ1 z x2 σ2) (q : R σ2 H) :
    WG X (.Tuple [.Name y py, .Name z pz] n pt) (.ref T) σ H R := wg_tup B (.inl (.inl hT)) (wgs_cons (wg_name B hu (wgs_cons (wg_name B hu2 (wgs_nil q)))))
/-- small answers -/
theorem exb {b : Bool} {R : Bool → Prop} (q : R b) : ∃ c, V.bl b = .bl c ∧ R c := ⟨b, rfl, q⟩
theorem exi {i : Int} {R : Option Int → Hp → Prop} (q : R (some i) H) : ∃ c, V.int i = .int c ∧ R (some c) H := ⟨i, rfl, q⟩
theorem exu {x : Str} {v : V} {σ' : L2.St} {R : L2.St → Prop} (hu : Up2 M σ x v σ') (q : R σ') : ∃ σ', Up2 M σ x v σ' ∧ R σ' := ⟨σ', hu, q⟩
end
end Y

/-! zip(xs, ys, strict=True) of two lists of one length -/
namespace PySem
open PySem.Spec PyProof.Rows
abbrev ZsAt (h : Heap) (z TI TO : Addr) (f0 : Value) : Prop := h.get? z = some { cls := .type "zip", dict := none, data := .fields #[f0, .bool false, .bool true, .ref TI, .ref TO], slots := #[] }
section zs
variable {prog : Program} {w : World} {A : Around} {E : Value → Shared → Prop} {s : Shared}
theorem zs_item {it l : Addr} {i : Nat} {items : Array Value} {x : Value} {Q : Option Value → Shared → Prop} (h1 : s.heap.IsListIter it l i) (h2 : s.heap.IsList l items) (hx : items[i]? = some x)
    (hQ : ∀ h', h'.IsListIter it l (i + 1) → Heap.SameBut it s.heap h' → Q (some x) { s with heap := h' }) : wpAny (model prog w) A (Builtin.SmallTypes.nextOrEnd (.ref it)) Q E s := by
  unfold Builtin.SmallTypes.nextOrEnd
  exact wpAny_bind (wpAny_attempt (wpAny_nextOf_list_item h1 h2 hx fun h' a b => wpAny_pure (hQ h' a b)))
theorem zs_end {it l : Addr} {i : Nat} {items : Array Value} {Q : Option Value → Shared → Prop} (hh : A.handled = none) (h1 : s.heap.IsListIter it l i) (h2 : s.heap.IsList l items) (hx : items[i]? = none)
    (hQ : ∀ h', Heap.ExtBut it s.heap h' → Q none { s with heap := h' }) : wpAny (model prog w) A (Builtin.SmallTypes.nextOrEnd (.ref it)) Q E s := by
  unfold Builtin.SmallTypes.nextOrEnd
  refine wpAny_bind (wpAny_attempt (wpAny_nextOf_list_end hh h1 h2 hx fun h' e a b => ?_))
  obtain ⟨o, ho, hc⟩ := b
  refine wpAny_bind (wpAny_isInstance (T := "StopIteration") (b := true) ⟨o, ho, hc⟩ isSubtype_stop ?_)
  exact wpAny_pure (hQ h' a)
theorem zs_next {z TI TO i1 i2 l1 l2 : Addr} {k1 k2 : Nat} {xs ys : Array Value} {x y a b : Value} {Q : Value → Shared → Prop} (D : ZipApart z TI TO i1 i2 l1 l2)
    (hz : ZsAt s.heap z TI TO .none) (hTI : IsPair s.heap TI (.ref i1) (.ref i2)) (hTO : IsPair s.heap TO a b) (h1 : s.heap.IsListIter i1 l1 k1) (h2 : s.heap.IsListIter i2 l2 k2)
    (hl1 : s.heap.IsList l1 xs) (hl2 : s.heap.IsList l2 ys) (hx : xs[k1]? = some x) (hy : ys[k2]? = some y)
    (hQ : ∀ h', ZsAt h' z TI TO (rawInt s.heap.objs.size) → IsPair h' TO x y → h'.IsListIter i1 l1 (k1 + 1) → h'.IsListIter i2 l2 (k2 + 1) → IsPair h' s.heap.objs.size x y → h'.objs.size = s.heap.objs.size + 1 →
      (∀ c o, c ≠ z → c ≠ TO → c ≠ i1 → c ≠ i2 → s.heap.get? c = some o → h'.get? c = some o) → Q (.ref s.heap.objs.size) { s with heap := h' }) :
    wpAny (model prog w) A (Builtin.«zip.__next__» ⟨[.ref z], []⟩) (fun fin s' => ∃ v, fin = .done (.ret v) ∧ Q v s') E s := by
  refine (wpAny_bind (wpAny_field hz rfl (x := .bool true) rfl ?_) : wpAny _ _ (field (.ref z) 2 >>= _) _ _ _)
  refine (wpAny_bind (wpAny_field hz rfl (x := .ref TI) rfl ?_) : wpAny _ _ (field (.ref z) 3 >>= _) _ _ _)
  refine wpAny_bind (wpAny_seqItems hTI rfl ?_)
  refine (wpAny_bind ?_ : wpAny _ _ (Builtin.SmallTypes.ownedTupleIsFree (.ref z) >>= _) _ _ _)
  unfold Builtin.SmallTypes.ownedTupleIsFree
  refine wpAny_bind (wpAny_field hz rfl (x := .none) rfl (wpAny_pure ?_)); simp only [if_true]
  refine wpAny_bind (wpAny_rule (wpAny_bind (wpAny_field hz rfl (x := .ref TO) rfl (wpAny_bind (wpAny_setField_rec hz (by simp) fun g1 z1 e1 => ?_)))))
  replace z1 : ZsAt g1 z TI TO .ellipsis := z1
  refine wpAny_bind ?_; simp only [List.zipIdx_cons, List.zipIdx_nil, List.forIn_cons, List.forIn_nil]
  refine wpAny_bind (wpAny_bind (wpAny_onRaise (zs_item (h1.extBut e1.extBut D.i1z) (hl1.extBut e1.extBut D.l1z) hx fun g2 p2 e2 => ?_)))
  have t2 : IsPair g2 TO a b := e2.extBut _ _ D.TOi1 (e1.extBut _ _ D.TOz hTO)
  refine wpAny_bind (wpAny_seqItems t2 rfl (wpAny_bind (wpAny_updateSeq_pair t2 fun g3 t3 e3 => ?_)))
  replace t3 : IsPair g3 TO x b := t3
  refine wpAny_bind (wpAny_letGo (wpAny_pure ?_))
  refine wpAny_bind (wpAny_bind (wpAny_onRaise (zs_item (((h2.extBut e1.extBut D.i2z).extBut e2.extBut D.i12.symm).extBut e3.extBut D.TOi2.symm) (((hl2.extBut e1.extBut D.l2z).extBut e2.extBut D.l2i1).extBut e3.extBut D.l2TO) hy fun g4 p4 e4 => ?_)))
  have t4 : IsPair g4 TO x b := e4.extBut _ _ D.TOi2 t3
  refine wpAny_bind (wpAny_seqItems t4 rfl (wpAny_bind (wpAny_updateSeq_pair t4 fun g5 t5 e5 => ?_)))
  replace t5 : IsPair g5 TO x y := t5
  refine wpAny_bind (wpAny_letGo (wpAny_pure (wpAny_pure ?_)))
  refine wpAny_bind (wpAny_seqItems t5 rfl (wpAny_bind (wpAny_newTuple ?_)))
  have sz : g5.objs.size = s.heap.objs.size := by rw [e5.1, e4.1, e3.1, e2.1, e1.1]
  have z5 : ZsAt g5 z TI TO .ellipsis := e5.extBut _ _ D.TOz.symm (e4.extBut _ _ D.i2z.symm (e3.extBut _ _ D.TOz.symm (e2.extBut _ _ D.i1z.symm z1)))
  have k5 : ∀ c o, c ≠ z → c ≠ TO → c ≠ i1 → c ≠ i2 → s.heap.get? c = some o → g5.get? c = some o := fun c o c1 c2 c3 c4 e => e5.extBut _ _ c2 (e4.extBut _ _ c4 (e3.extBut _ _ c2 (e2.extBut _ _ c3 (e1.extBut _ _ c1 e))))
  have p15 : g5.IsListIter i1 l1 (k1 + 1) := ((p2.extBut e3.extBut D.TOi1.symm).extBut e4.extBut D.i12).extBut e5.extBut D.TOi1.symm
  have p25 : g5.IsListIter i2 l2 (k2 + 1) := p4.extBut e5.extBut D.TOi2.symm
  have zlt : z < g5.objs.size := Heap.lt_size z5
  refine (wpAny_bind ?_ : wpAny _ _ (Builtin.SmallTypes.ownedTupleHandOut (.ref z) (.ref g5.objs.size) >>= _) _ _ _)
  unfold Builtin.SmallTypes.ownedTupleHandOut
  have z6 : ZsAt (g5.push { cls := .type "tuple", data := .seq #[x, y] }) z TI TO .ellipsis := Heap.get?_push_of_some _ z5
  refine wpAny_bind (wpAny_setField_rec z6 (by simp) fun g7 z7 e7 => ?_)
  replace z7 : ZsAt g7 z TI TO (rawInt g5.objs.size) := z7
  refine wpAny_setField_rec z7 (by simp) fun g8 z8 e8 => ?_
  replace z8 : ZsAt g8 z TI TO (rawInt g5.objs.size) := z8
  have up : ∀ c o, c ≠ z → g5.get? c = some o → g8.get? c = some o := fun c o c1 e => e8.extBut _ _ c1 (e7.extBut _ _ c1 (Heap.get?_push_of_some _ e))
  have T8 : IsPair g8 g5.objs.size x y := e8.extBut _ _ (Nat.ne_of_gt zlt) (e7.extBut _ _ (Nat.ne_of_gt zlt) (Heap.get?_push_size _ rfl))
  have s8 : g8.objs.size = g5.objs.size + 1 := by rw [e8.1, e7.1, Heap.size_push]
  rw [sz] at z8 T8 s8
  refine wpAny_pure ⟨_, rfl, ?_⟩
  rw [sz]
  exact hQ g8 z8 (up _ _ D.TOz t5) (p15.at fun o e => up _ o D.i1z e) (p25.at fun o e => up _ o D.i2z e) T8 s8 fun c o c1 c2 c3 c4 e => up c o c1 (k5 c o c1 c2 c3 c4 e)
theorem zs_stop {z TI TO i1 i2 l1 l2 : Addr} {k1 k2 : Nat} {xs ys : Array Value} {a b : Value} {Q : Fin → Shared → Prop} (hh : A.handled = none) (D : ZipApart z TI TO i1 i2 l1 l2)
    (hz : ZsAt s.heap z TI TO .none) (hTI : IsPair s.heap TI (.ref i1) (.ref i2)) (hTO : IsPair s.heap TO a b) (h1 : s.heap.IsListIter i1 l1 k1) (h2 : s.heap.IsListIter i2 l2 k2)
    (hl1 : s.heap.IsList l1 xs) (hl2 : s.heap.IsList l2 ys) (hx : xs[k1]? = none) (hy : ys[k2]? = none)
    (hE : ∀ h' e, (∀ c o, c ≠ z → c ≠ TO → c ≠ i1 → c ≠ i2 → s.heap.get? c = some o → h'.get? c = some o) → (∃ o, h'.get? e = some o ∧ o.cls = .type "StopIteration") → E (.ref e) { s with heap := h' }) :
    wpAny (model prog w) A (Builtin.«zip.__next__» ⟨[.ref z], []⟩) Q E s := by
  refine (wpAny_bind (wpAny_field hz rfl (x := .bool true) rfl ?_) : wpAny _ _ (field (.ref z) 2 >>= _) _ _ _)
  refine (wpAny_bind (wpAny_field hz rfl (x := .ref TI) rfl ?_) : wpAny _ _ (field (.ref z) 3 >>= _) _ _ _)
  refine wpAny_bind (wpAny_seqItems hTI rfl ?_)
  refine (wpAny_bind ?_ : wpAny _ _ (Builtin.SmallTypes.ownedTupleIsFree (.ref z) >>= _) _ _ _)
  unfold Builtin.SmallTypes.ownedTupleIsFree
  refine wpAny_bind (wpAny_field hz rfl (x := .none) rfl (wpAny_pure ?_)); simp only [if_true]
  refine wpAny_bind (wpAny_rule (wpAny_bind (wpAny_field hz rfl (x := .ref TO) rfl (wpAny_bind (wpAny_setField_rec hz (by simp) fun g1 z1 e1 => ?_)))))
  replace z1 : ZsAt g1 z TI TO .ellipsis := z1
  refine wpAny_bind ?_; simp only [List.zipIdx_cons, List.zipIdx_nil, List.forIn_cons, List.forIn_nil]
  refine wpAny_bind (wpAny_bind (wpAny_onRaise (zs_end hh (h1.extBut e1.extBut D.i1z) (hl1.extBut e1.extBut D.l1z) hx fun g2 e2 => ?_)))
  have z2 : ZsAt g2 z TI TO .ellipsis := e2 _ _ D.i1z.symm z1
  refine wpAny_bind (wpAny_setField_rec z2 (by simp) fun g3 z3 e3 => ?_)
  refine wpAny_bind (wpAny_bind ?_)
  refine (wpAny_bind ?_ : wpAny _ _ ((pure PUnit.unit : Sem PUnit) >>= fun _ => _) _ _ _)
  refine wpAny_pure ?_
  simp only [List.drop_succ_cons, List.drop_zero, List.zipIdx_cons, List.zipIdx_nil, List.forIn'_cons, List.forIn'_nil]
  refine wpAny_bind (wpAny_bind (zs_end hh (((h2.extBut e1.extBut D.i2z).extBut e2 D.i12.symm).extBut e3.extBut D.i2z) (((hl2.extBut e1.extBut D.l2z).extBut e2 D.l2i1).extBut e3.extBut D.l2z) hy fun g4 e4 => ?_))
  refine (wpAny_pure ?_ : wpAny _ _ (pure _) _ _ _)
  refine (wpAny_pure ?_ : wpAny _ _ (pure _) _ _ _)
  refine wpAny_bind (wpAny_rule ?_)
  refine (wpAny_bind ?_ : wpAny _ _ (newExc (.type "StopIteration") [] >>= _) _ _ _)
  simp only [newExc, newTuple]
  refine wpAny_bind (wpAny_newObj_type ?_ (by size_fits))
  refine wpAny_bind (m := firstArgMember _ _) (wpAny_of_eq (a := Value.none) (by first | rfl | (simp only [firstArgMember]; rfl)) ?_)
  refine wpAny_newObj_type ?_ (by size_fits)
  refine wpAny_raiseNew_none hh ?_
  refine hE _ _ (fun c o c1 c2 c3 c4 x => ?_) ⟨_, Heap.get?_push_size _ rfl, rfl⟩
  exact Heap.get?_push_of_some _ (Heap.get?_push_of_some _ (e4 _ _ c4 (e3.extBut _ _ c1 (e2 _ _ c3 (e1.extBut _ _ c1 x)))))
end zs
end PySem

namespace PySem
open PySem.Spec PyProof.Rows
section zs
variable {prog : Program} {w : World} {A : Around} {E : Value → Shared → Prop} {s : Shared}
theorem zs_pyNext {z TI TO i1 i2 l1 l2 : Addr} {k1 k2 : Nat} {xs ys : Array Value} {x y a b : Value} {Q : Option Value → Shared → Prop} (D : ZipApart z TI TO i1 i2 l1 l2)
    (hz : ZsAt s.heap z TI TO .none) (hTI : IsPair s.heap TI (.ref i1) (.ref i2)) (hTO : IsPair s.heap TO a b) (h1 : s.heap.IsListIter i1 l1 k1) (h2 : s.heap.IsListIter i2 l2 k2)
    (hl1 : s.heap.IsList l1 xs) (hl2 : s.heap.IsList l2 ys) (hx : xs[k1]? = some x) (hy : ys[k2]? = some y)
    (hQ : ∀ h', ZsAt h' z TI TO (rawInt s.heap.objs.size) → IsPair h' TO x y → h'.IsListIter i1 l1 (k1 + 1) → h'.IsListIter i2 l2 (k2 + 1) → IsPair h' s.heap.objs.size x y → h'.objs.size = s.heap.objs.size + 1 →
      (∀ c o, c ≠ z → c ≠ TO → c ≠ i1 → c ≠ i2 → s.heap.get? c = some o → h'.get? c = some o) → Q (some (.ref s.heap.objs.size)) { s with heap := h' }) : wpAny (model prog w) A (pyNext (.ref z)) Q E s := by
  unfold pyNext
  have hT : s.TypeIs (.ref z) "zip" := ⟨_, hz, rfl⟩
  exact wpAny_bind (wpAny_attempt (wpAny_callSpecial?_slot (name := Str.ofString "__next__") hT F.slot_zip_next (wpAny_call_entry F.slot_zip_next hT F.entry_zip_next (zs_next D hz hTI hTO h1 h2 hl1 hl2 hx hy fun h' a1 a2 a3 a4 a5 a6 a7 => wpAny_pure (hQ h' a1 a2 a3 a4 a5 a6 a7)) (F.args_zip_next_1 _))))
theorem zs_pyEnd {z TI TO i1 i2 l1 l2 : Addr} {k1 k2 : Nat} {xs ys : Array Value} {a b : Value} {Q : Option Value → Shared → Prop} (hh : A.handled = none) (D : ZipApart z TI TO i1 i2 l1 l2)
    (hz : ZsAt s.heap z TI TO .none) (hTI : IsPair s.heap TI (.ref i1) (.ref i2)) (hTO : IsPair s.heap TO a b) (h1 : s.heap.IsListIter i1 l1 k1) (h2 : s.heap.IsListIter i2 l2 k2)
    (hl1 : s.heap.IsList l1 xs) (hl2 : s.heap.IsList l2 ys) (hx : xs[k1]? = none) (hy : ys[k2]? = none)
    (hQ : ∀ h', (∀ c o, c ≠ z → c ≠ TO → c ≠ i1 → c ≠ i2 → s.heap.get? c = some o → h'.get? c = some o) → Q none { s with heap := h' }) : wpAny (model prog w) A (pyNext (.ref z)) Q E s := by
  unfold pyNext
  have hT : s.TypeIs (.ref z) "zip" := ⟨_, hz, rfl⟩
  refine wpAny_bind (wpAny_attempt (wpAny_callSpecial?_slot (name := Str.ofString "__next__") hT F.slot_zip_next (wpAny_call_entry F.slot_zip_next hT F.entry_zip_next (zs_stop hh D hz hTI hTO h1 h2 hl1 hl2 hx hy fun h' e hk he => ?_) (F.args_zip_next_1 _))))
  obtain ⟨o, ho, hc⟩ := he
  exact wpAny_bind (wpAny_isInstance (T := "StopIteration") (b := true) ⟨o, ho, hc⟩ isSubtype_stop (wpAny_pure (hQ _ hk)))
theorem zs_go {elts : List Expr} {x1 : Nat} {pos : Pos} {z TI TO T : Addr} {Q : Unit → Shared → Prop} (hz : ZsAt s.heap z TI TO (rawInt T)) (hQ : ∀ h', ZsAt h' z TI TO .none → Heap.SameBut z s.heap h' → Q () { s with heap := h' }) :
    wpAny (model prog w) A (letOwnedTupleGo (.Tuple elts x1 pos) (.ref z) (.ref T)) Q E s := by
  unfold letOwnedTupleGo
  refine wpAny_bind (wpAny_load hz ?_)
  refine (?_ : wpAny _ _ (if ((["enumerate", "zip", "dict_itemiterator", "dict_reverseitemiterator", "odict_iterator", "itertools.zip_longest", "itertools.pairwise"] : List String).contains "zip" && (#[rawInt T, .bool false, .bool true, .ref TI, .ref TO] : Array Value)[0]? == some (rawInt T)) = true then _ else _) Q E s)
  rw [if_pos (by simp)]
  refine wpAny_bind (wpAny_rule (?_ : wpAny _ _ (setField (.ref z) 0 .none) Q E s))
  exact wpAny_setField_rec hz (by simp) fun h' a b => hQ h' a b
theorem zs_iter {z TI TO : Addr} {f0 : Value} {Q : Value → Shared → Prop} (hz : ZsAt s.heap z TI TO f0) (h : Q (.ref z) s) : wpAny (model prog w) A (pyIter (.ref z)) Q E s := by
  have hT : s.TypeIs (.ref z) "zip" := ⟨_, hz, rfl⟩
  refine wpAny_pyIter_slot hT F.slot_zip_iter (wpAny_call_entry F.slot_zip_iter hT F.entry_zip_iter (?_ : wpAny _ _ (ret (.ref z)) _ _ s) (F.args_zip_iter_1 _))
  exact wpAny_pure ⟨_, rfl, "zip", _, hT, F.slot_zip_next.lookup, h⟩
end zs
theorem F.typeCall_zs (a b c : Value) : checkTypeCall "zip" ⟨[a, b], [(Str.ofString "strict", c)]⟩ = pure () := by kernel_rfl
theorem F.newCall_zs (a b c : Value) : checkBuiltinCall "zip.__new__" ⟨[.type "zip", a, b], [(Str.ofString "strict", c)]⟩ = pure () := by kernel_rfl
theorem F.argsInit_zs (obj a b c : Value) : argsOk "object.__init__" ⟨[obj, a, b], [(Str.ofString "strict", c)]⟩ := by unfold argsOk; kernel_rfl
abbrev zsH4 (h : Heap) (l1 l2 : Addr) : Heap := zipH4 h l1 l2
abbrev zsH5 (h : Heap) (l1 l2 : Addr) : Heap := (zsH4 h l1 l2).push { cls := .type "zip", data := .fields #[.none, .bool false, .bool true, .ref (zipH2 h l1 l2).objs.size, .ref (zipH3 h l1 l2).objs.size] }
set_option maxHeartbeats 8000000 in
theorem meets_zs (l1 l2 : Addr) (xs ys : Array Value) :
    Meets (Builtin.«zip.__new__» ⟨[.type "zip", .ref l1, .ref l2], [(Str.ofString "strict", .bool true)]⟩) (fun _ R s => s.heap.IsList l1 xs ∧ s.heap.IsList l2 ys ∧ R (.ok (.ret (.ref (zsH4 s.heap l1 l2).objs.size))) { s with heap := zsH5 s.heap l1 l2 }) :=
  .of_wp fun prog w A R s h => by
    obtain ⟨hp, g, d, tk, os⟩ := s
    obtain ⟨hl1, hl2, h⟩ := h
    have hsub := sub_zip
    have q1 : Heap.IsList (Shared.heap ⟨hp, g, d, tk, os⟩) l1 xs := hl1
    have q2 : Heap.IsList (Shared.heap ⟨hp.push { cls := .type "list_iterator", data := .fields #[.ref l1, .int 0 0] }, g, d, tk, os⟩) l2 ys := Heap.IsList.push hl2 _
    have e1 : (Str.ofString "strict" == ("strict" : Str)) = true := by decide +kernel
    have e2 : (Str.ofString "strict" != ("strict" : Str)) = false := by decide +kernel
    wp_walk using wpAny_pyIter_list q1, wpAny_pyIter_list q2, wpAny_truthy_bool
    exact ⟨_, rfl, h⟩
section zs2
variable {prog : Program} {w : World} {A : Around} {E : Value → Shared → Prop} {s : Shared}
theorem call_zs {l1 l2 : Addr} {xs ys : Array Value} {Q : Value → Shared → Prop} (hl1 : s.heap.IsList l1 xs) (hl2 : s.heap.IsList l2 ys)
    (h : ∀ h', ZsAt h' (s.heap.objs.size + 4) (s.heap.objs.size + 2) (s.heap.objs.size + 3) .none → IsPair h' (s.heap.objs.size + 2) (.ref s.heap.objs.size) (.ref (s.heap.objs.size + 1)) → IsPair h' (s.heap.objs.size + 3) .none .none →
      h'.IsListIter s.heap.objs.size l1 0 → h'.IsListIter (s.heap.objs.size + 1) l2 0 → (∀ c o, s.heap.get? c = some o → h'.get? c = some o) → Q (.ref (s.heap.objs.size + 4)) { s with heap := h' }) :
    wpAny (model prog w) A (call (.type "zip") [.ref l1, .ref l2] [(Str.ofString "strict", .bool true)]) Q E s := by
  refine callType_newKw F.called_zip (by decide) (F.typeCall_zs _ _ _) (F.newCall_zs _ _ _) (fun obj => F.argsInit_zs obj _ _ _) F.entry_zip_new (meets_zs l1 l2 xs ys) ⟨hl1, hl2, ?_⟩
  have n1 : (zipH1 s.heap l1).objs.size = s.heap.objs.size + 1 := Heap.size_push ..
  have n2 : (zipH2 s.heap l1 l2).objs.size = s.heap.objs.size + 2 := by rw [Heap.size_push, n1]
  have n3 : (zipH3 s.heap l1 l2).objs.size = s.heap.objs.size + 3 := by rw [Heap.size_push, n2]
  have n4 : (zsH4 s.heap l1 l2).objs.size = s.heap.objs.size + 4 := by rw [Heap.size_push, n3]
  have o5 : (zsH5 s.heap l1 l2).get? (zsH4 s.heap l1 l2).objs.size = some { cls := .type "zip", data := .fields #[.none, .bool false, .bool true, .ref (zipH2 s.heap l1 l2).objs.size, .ref (zipH3 s.heap l1 l2).objs.size] } := Heap.get?_push_size _ rfl
  have o4 : (zsH5 s.heap l1 l2).get? (zipH3 s.heap l1 l2).objs.size = some { cls := .type "tuple", data := .seq #[.none, .none] } := Heap.get?_push_of_some _ (Heap.get?_push_size _ rfl)
  have o3 : (zsH5 s.heap l1 l2).get? (zipH2 s.heap l1 l2).objs.size = some { cls := .type "tuple", data := .seq #[.ref s.heap.objs.size, .ref (zipH1 s.heap l1).objs.size] } := Heap.get?_push_of_some _ (Heap.get?_push_of_some _ (Heap.get?_push_size _ rfl))
  have o2 : (zsH5 s.heap l1 l2).get? (zipH1 s.heap l1).objs.size = some { cls := .type "list_iterator", data := .fields #[.ref l2, .int 0 0] } := Heap.get?_push_of_some _ (Heap.get?_push_of_some _ (Heap.get?_push_of_some _ (Heap.get?_push_size _ rfl)))
  have o1 : (zsH5 s.heap l1 l2).get? s.heap.objs.size = some { cls := .type "list_iterator", data := .fields #[.ref l1, .int 0 0] } := Heap.get?_push_of_some _ (Heap.get?_push_of_some _ (Heap.get?_push_of_some _ (Heap.get?_push_of_some _ (Heap.get?_push_size _ rfl))))
  show _ ∧ _
  refine ⟨⟨_, o5, rfl⟩, ?_⟩
  rw [n2, n3, n4] at o5
  rw [n1, n2] at o3
  rw [n3] at o4
  rw [n1] at o2
  rw [n4]
  exact h _ o5 o3 o4 ⟨_, o1, rfl, rfl⟩ ⟨_, o2, rfl, rfl⟩ fun c o x => Heap.get?_push_of_some _ (Heap.get?_push_of_some _ (Heap.get?_push_of_some _ (Heap.get?_push_of_some _ (Heap.get?_push_of_some _ x))))
end zs2
end PySem
namespace Y
open PySem PySem.Spec PyProof.Rows L2
def Izs (K : PySem.W.Frag) (a b : Addr) : It :=
  ⟨(Itz K a b).go, (Itz K a b).yld, fun i H => ∃ xs ys : List V, SqL K H a xs ∧ SqL K H b ys ∧ xs.length ≤ i ∧ ys.length ≤ i⟩
theorem turn_zs {P : Program} {w : World} {K : PySem.W.Frag} {elts : List Expr} {kk : Nat} {tpos : Pos} {a b z TI TO i1 i2 : Addr} (D : ZipApart z TI TO i1 i2 a b) :
    Turn P w K (.Tuple elts kk tpos) (Izs K a b) [z, TI, TO, i1, i2] z (fun i h => ZsAt h z TI TO .none ∧ IsPair h TI (.ref i1) (.ref i2) ∧ (∃ x y, IsPair h TO x y) ∧ h.IsListIter i1 a i ∧ h.IsListIter i2 b i) where
  mem := by simp
  obj := fun i h st c hc => by
    obtain ⟨hz, hTI, ⟨x, y, hTO⟩, ⟨p1, e1, _, d1⟩, ⟨p2, e2, _, d2⟩⟩ := st
    rcases (by simpa using hc : c = z ∨ c = TI ∨ c = TO ∨ c = i1 ∨ c = i2) with q | q | q | q | q
    · rw [q]; refine ⟨_, hz, fun v q' => nomatch q'⟩
    · rw [q]; refine ⟨_, hTI, fun v q' => nomatch q'⟩
    · rw [q]; refine ⟨_, hTO, fun v q' => nomatch q'⟩
    · exact ⟨p1, by rw [q]; exact e1, fun v q => by rw [d1] at q; cases q⟩
    · exact ⟨p2, by rw [q]; exact e2, fun v q => by rw [d2] at q; cases q⟩
  keep := fun i h h' st k => by
    obtain ⟨hz, hTI, ⟨x, y, hTO⟩, p1, p2⟩ := st
    exact ⟨k z (by simp) _ hz, k TI (by simp) _ hTI, ⟨x, y, k TO (by simp) _ hTO⟩, p1.at fun o q => k i1 (by simp) o q, p2.at fun o q => k i2 (by simp) o q⟩
  item := by
    intro X hP hw hK hc i pins s σ H E I hf st hg
    subst hP hw hK
    obtain ⟨hz, hTI, ⟨x0, y0, hTO⟩, p1, p2⟩ := st
    obtain ⟨xs, ys, x, y, hqx, hqy, hx, hy⟩ := hg
    obtain ⟨its, rv, l1, _⟩ := I.list hqx
    obtain ⟨its2, rv2, l2, _⟩ := I.list hqy
    obtain ⟨u, hu, ru⟩ := rv.get hx
    obtain ⟨u2, hu2, ru2⟩ := rv2.get hy
    have hzl : z < s.heap.objs.size := Heap.lt_size hz
    refine zs_pyNext D hz hTI hTO p1 p2 l1.isList l2.isList (x := u) (y := u2) (by simpa using hu) (by simpa using hu2) fun h' z' TO' p1' p2' hT hsz hk => ⟨_, rfl, zs_go (s := { s with heap := h' }) z' fun h'' z'' sb => ?_⟩
    have hT2 : h''.get? s.heap.objs.size = some { cls := .type "tuple", data := .seq #[u, u2] } := (sb.2 _ (Nat.ne_of_gt hzl)).trans hT
    have new : ObjOk X.prog X.w (upd H s.heap.objs.size (.tup [x, y])) h'' s.heap.objs.size (.tup [x, y]) := ⟨le_line (by show 2 ≤ 16777216; decide), [u, u2], .cons ru (.cons ru2 .nil), ⟨_, hT2, rfl, _, rfl⟩⟩
    have I1 : Inv X pins σ (upd H s.heap.objs.size (.tup [x, y])) { s with heap := h'' } :=
      I.turnedNew (t' := s.toks) (ch := [z, TI, TO, i1, i2]) (fun c o hb q => (sb.2 c (fun q' => hb (by rw [q']; simp))).trans (hk c o (fun q' => hb (by rw [q']; simp)) (fun q' => hb (by rw [q']; simp)) (fun q' => hb (by rw [q']; simp)) (fun q' => hb (by rw [q']; simp)) q)) hf (Nat.le_refl _) new
    refine ⟨.ref s.heap.objs.size, _, I1, rfl, ⟨_, x, y, rfl, I.hok.fresh (Nat.le_refl _), rfl, fun l hl => by rw [I.list_inj hl hqx]; exact hx, fun l hl => by rw [I.list_inj hl hqy]; exact hy⟩, ⟨z'', (sb.2 _ D.TIz).trans (hk _ _ D.TIz D.TITO D.TIi1 D.TIi2 hTI), ⟨u, u2, (sb.2 _ D.TOz).trans TO'⟩, p1'.at fun o q => (sb.2 _ D.i1z).trans q, p2'.at fun o q => (sb.2 _ D.i2z).trans q⟩, fun c hcm => ?_⟩
    have hlt : c < s.heap.objs.size := by
      rcases (by simpa using hcm : c = z ∨ c = TI ∨ c = TO ∨ c = i1 ∨ c = i2) with q | q | q | q | q
      · rw [q]; exact hzl
      · rw [q]; exact Heap.lt_size hTI
      · rw [q]; exact Heap.lt_size hTO
      · obtain ⟨_, e1, _⟩ := p1; rw [q]; exact Heap.lt_size e1
      · obtain ⟨_, e2, _⟩ := p2; rw [q]; exact Heap.lt_size e2
    rw [upd_ne (Nat.ne_of_lt hlt)]
    exact (hf c hcm).1
  done := by
    intro X hP hw hK hc i pins s σ H E I hf st hg
    subst hP hw hK
    obtain ⟨hz, hTI, ⟨x0, y0, hTO⟩, p1, p2⟩ := st
    obtain ⟨xs, ys, hqx, hqy, n1, n2⟩ := hg
    obtain ⟨its, rv, l1, _⟩ := I.list hqx
    obtain ⟨its2, rv2, l2, _⟩ := I.list hqy
    have g1 := rv.length
    have g2 := rv2.length
    exact zs_pyEnd (I.ok.hd hc) D hz hTI hTO p1 p2 l1.isList l2.isList (by simp; omega) (by simp; omega) fun h' hk => ⟨rfl, I.turnedL (t' := s.toks) (ch := [z, TI, TO, i1, i2]) (fun c o hb q =>
      hk c o (fun q' => hb (by rw [q']; simp)) (fun q' => hb (by rw [q']; simp)) (fun q' => hb (by rw [q']; simp)) (fun q' => hb (by rw [q']; simp)) q) hf⟩
  self := fun A i s Q E st h => zs_iter st.1 h
section
variable {Z : Wd} {X : Cx} {N : List Str} {sc scope : Scope} {M : Msk} {G : List Str} {σ : L2.St} {H : Hp} {D : Ends} {p : Pos} {tg iter elt : Expr} {ifs : List Expr} {body : List Stmt} {vs : List Nat} {Q : VK}
theorem wi_zs {e e2 ek : Expr} {pf pc tp pk : Pos} {elts : List Expr} {kk : Nat} {R : It → Hp → Prop} (B : Bd Z X N sc M G) (hg : ("zip" : Str) ∈ G) (hm : Z.mg "zip" = none)
    (q : WE X e σ H fun v H1 => WE X e2 σ H1 fun w H2 => WE X ek σ H2 fun u H3 => ∃ a b xs ys, v = .ref a ∧ w = .ref b ∧ u = .bl true ∧ SqL X.K H3 a xs ∧ SqL X.K H3 b ys ∧ R (Izs X.K a b) H3)
    (hs : starEach [e, e2] X.env = (false, eval e X.env) :: starEach [e2] X.env := by with_unfolding_all rfl) (hs2 : starEach [e2] X.env = [(false, eval e2 X.env)] := by with_unfolding_all rfl)
    (hall : (backToKw pc (keywordEach [⟨some "strict", ek, pk⟩] X.env)).all (·.1.isSome) = true := by with_unfolding_all rfl) (hks : (backToKw pc (keywordEach [⟨some "strict", ek, pk⟩] X.env)).filterMap (·.1) = [Str.ofString "strict"] := by with_unfolding_all rfl)
    (hpl : ((backTo pc (starEach [e, e2] X.env)).any (·.1) || (backToKw pc (keywordEach [⟨some "strict", ek, pk⟩] X.env)).any (·.1.isNone)) = false := by with_unfolding_all rfl) :
    WI X (.Tuple elts kk tp) (.Call (.Name "zip" pf) [e, e2] [⟨some "strict", ek, pk⟩] pc) σ H R := by
  obtain ⟨e1, _, _⟩ := B.gl _ hg
  intro pins s I
  have wa : WA X [e, e2] σ H fun vs H1 => WK X [⟨some "strict", ek, pk⟩] σ H1 fun zs H2 => ∃ a b xs ys, vs = [.ref a, .ref b] ∧ zs = [.bl true] ∧ SqL X.K H2 a xs ∧ SqL X.K H2 b ys ∧ R (Izs X.K a b) H2 :=
    wa_cons (q.imp fun v H1 q1 => wa_cons (q1.imp fun w H2 q2 => wa_nil (wk_cons (q2.imp fun u H3 ⟨a, b, xs, ys, ev, ew, eu, h1, h2, r⟩ => wk_nil ⟨a, b, xs, ys, by rw [ev, ew], by rw [eu], h1, h2, r⟩))) hs2) hs
  refine wpAny_Call_Name_kw (ld_blt I e1 (by rw [B.mg]; exact hm) PyProof.Rows.boot_zip ?_)
  refine callTyKw (thn (wa pc pins s I) fun us s1 ⟨vs, H1, I1, r1, q1⟩ => thn (q1 pc pins s1 I1) fun ks s2 ⟨zs, H2, I2, r2, a, b, xs, ys, ev, ez, hqx, hqy, q⟩ => ?_) hall hpl hs
  subst ev ez
  rw [hks]
  cases r1 with
  | cons r rr =>
    cases rr with
    | cons r' rr =>
      cases rr
      cases r
      cases r'
      cases r2 with
      | cons r3 rr =>
        cases rr
        cases r3
        obtain ⟨its, rv, p1, _⟩ := I2.list hqx
        obtain ⟨its2, rv2, p2, _⟩ := I2.list hqy
        have la : a < s2.heap.objs.size := by obtain ⟨o, n, e, _⟩ := p1; exact Heap.lt_size e
        have lb : b < s2.heap.objs.size := by obtain ⟨o, n, e, _⟩ := p2; exact Heap.lt_size e
        refine call_zs p1.isList p2.isList fun h' hz hTI hTO h1 h2 hk => zs_iter hz ?_
        have I3 : Inv X pins σ H2 { s2 with heap := h' } := I2.kept (t' := s2.toks) hk
        refine ⟨s2.heap.objs.size + 4, [s2.heap.objs.size + 4, s2.heap.objs.size + 2, s2.heap.objs.size + 3, s2.heap.objs.size, s2.heap.objs.size + 1], _, _, H2, rfl, I3, turn_zs (PySem.W.ktu_apart s2.heap.objs.size a b la lb), ⟨hz, hTI, ⟨_, _, hTO⟩, h1, h2⟩, fun c hc => ?_, q⟩
        have hle : s2.heap.objs.size ≤ c := by
          rcases (by simpa using hc : c = s2.heap.objs.size + 4 ∨ c = s2.heap.objs.size + 2 ∨ c = s2.heap.objs.size + 3 ∨ c = s2.heap.objs.size ∨ c = s2.heap.objs.size + 1) with z | z | z | z | z <;> rw [z]
          · exact Nat.le_add_right _ _
          · exact Nat.le_add_right _ _
          · exact Nat.le_add_right _ _
          · exact Nat.le_refl _
          · exact Nat.le_add_right _ _
        exact I2.fpOk hle (I2.hok.fresh hle)
theorem fi_zs {a b : Addr} {xs ys : List V} (hlen : xs.length = ys.length) (Pv : List V → List V → L2.St → Hp → Prop) (h0 : Pv xs ys σ H) (hl : ∀ r s σ H, Pv r s σ H → SqL X.K H a xs ∧ SqL X.K H b ys)
    (hs : ∀ x r y s σ H T, Pv (x :: r) (y :: s) σ H → H T = none → WG X tg (.ref T) σ (upd H T (.tup [x, y])) fun σ2 H2 => WSs X body { D with nx := Pv r s, ct := Pv r s, bk := D.nx } σ2 H2)
    (hd : ∀ σ H, Pv [] [] σ H → D.nx σ H) : FI X (Izs X.K a b) tg body D σ H := by
  refine ⟨fun i m σ H => m = xs.length - i ∧ i ≤ xs.length ∧ Pv (xs.drop i) (ys.drop i) σ H, ⟨xs.length, rfl, Nat.zero_le _, h0⟩, ?_⟩
  rintro i m σ H ⟨rfl, hi, pv⟩
  obtain ⟨q1, q2⟩ := hl _ _ σ H pv
  by_cases h1 : i < xs.length
  · have h2 : i < ys.length := by omega
    refine .inr ⟨⟨xs, ys, xs[i], ys[i], q1, q2, by simp [h1], by simp [h2]⟩, Pv (xs.drop (i + 1)) (ys.drop (i + 1)), fun σ' H' p' => ⟨xs.length - (i + 1), by omega, rfl, h1, p'⟩, fun x H' y => ?_⟩
    obtain ⟨T, x', y', rfl, hT, rfl, f1, f2⟩ := y
    have hx := f1 xs q1
    have hy := f2 ys q2
    rw [List.getElem?_eq_getElem h1] at hx
    rw [List.getElem?_eq_getElem h2] at hy
    cases hx
    cases hy
    rw [List.drop_eq_getElem_cons h1, List.drop_eq_getElem_cons h2] at pv
    exact hs _ _ _ _ σ _ T pv hT
  · refine .inl ⟨⟨xs, ys, q1, q2, by omega, by omega⟩, hd σ H ?_⟩
    rw [List.drop_eq_nil_of_le (by omega), List.drop_eq_nil_of_le (by omega)] at pv
    exact pv
theorem li_zs {a b : Addr} {xs ys : List V} (hlen : xs.length = ys.length) (Pv : Addr → List V → List V → List V → Hp → Prop) (h0 : ∀ D, H D = none → Pv D xs ys [] (upd H D (.lst []))) (hl : ∀ D r s acc H, Pv D r s acc H → SqL X.K H a xs ∧ SqL X.K H b ys)
    (hs : ∀ D x r y s acc H T, Pv D (x :: r) (y :: s) acc H → H T = none → Tn X scope tg elt ifs vs D acc σ (.ref T) (upd H T (.tup [x, y])) (Pv D r s)) (hd : ∀ D acc H, Pv D [] [] acc H → Q (.ref D) H) : LI X scope (Izs X.K a b) tg elt ifs vs σ H Q := fun D hD => by
  refine ⟨fun i m H => m = xs.length - i ∧ i ≤ xs.length ∧ ∃ acc, Pv D (xs.drop i) (ys.drop i) acc H, ⟨xs.length, rfl, Nat.zero_le _, [], h0 D hD⟩, ?_⟩
  rintro i m H ⟨rfl, hi, acc, pv⟩
  obtain ⟨q1, q2⟩ := hl D _ _ _ H pv
  by_cases h1 : i < xs.length
  · have h2 : i < ys.length := by omega
    refine .inr ⟨⟨xs, ys, xs[i], ys[i], q1, q2, by simp [h1], by simp [h2]⟩, fun H' => ∃ acc, Pv D (xs.drop (i + 1)) (ys.drop (i + 1)) acc H', fun H' p' => ⟨xs.length - (i + 1), by omega, rfl, h1, p'⟩, fun x H' y => ?_⟩
    obtain ⟨T, x', y', rfl, hT, rfl, f1, f2⟩ := y
    have hx := f1 xs q1
    have hy := f2 ys q2
    rw [List.getElem?_eq_getElem h1] at hx
    rw [List.getElem?_eq_getElem h2] at hy
    cases hx
    cases hy
    rw [List.drop_eq_getElem_cons h1, List.drop_eq_getElem_cons h2] at pv
    exact (hs D _ _ _ _ _ _ T pv hT).go fun acc H h => ⟨acc, h⟩
  · refine .inl ⟨⟨xs, ys, q1, q2, by omega, by omega⟩, hd D acc H ?_⟩
    rw [List.drop_eq_nil_of_le (by omega), List.drop_eq_nil_of_le (by omega)] at pv
    exact pv
end
section
variable {Z : Wd} {X : Cx} {σ : L2.St} {H : Hp} {p : Pos} {R : Bool → Hp → Prop}
/-- a call as a test *)-/
theorem wt_call {f : Expr} {as : List Expr} {ks : List Keyword} (q : WE X (.Call f as ks p) σ H fun x H1 => ∃ c, x = .bl c ∧ R c H1) : WT X (.Call f as ks p) σ H R := wt_val q
theorem room_le {j k : Nat} {A : Around} (h : Room k A) (hj : j ≤ k) : Room j A := h.mono hj
end
end Y

namespace Y
open PySem PySem.Spec PyProof.Rows L2
/-! ### constants of the module -/
structure Cst (Z : Wd) (x : Str) (i : Int) : Prop where
  ex : ∃ u, Z.mg x = some u ∧ RelV (.int i) u
section
variable {Z : Wd} {X X' : Cx} {N : List Str} {sc scope : Scope} {M M' : Msk} {G G' : List Str} {σ σ0 : L2.St} {H : Hp} {p : Pos} {Q : VK} {tg iter elt : Expr} {vs : List Nat}
theorem we_cst {x : Str} {i : Int} (B : Bd Z X N sc M G) (hg : x ∈ G) (h : Cst Z x i) (q : Q (.int i) H) : WE X (.Name x p) σ H Q := by
  obtain ⟨u, h1, h2⟩ := h.ex
  exact we_glob B hg h1 h2 q
/-! ### a comprehension by what it makes -/
structure MapSt (Z : Wd) (S : List Addr) (I0 H0 : Hp) (R : Nat → List PyData → Hp → Hp → Prop) (i : Nat) (D : Addr) (acc : List V) (H : Hp) : Prop where
  ex : ∃ I1 ds, Gr S I0 H0 I1 H ∧ I1 D = none ∧ DpAll Z.K I1 acc ds ∧ R i ds I1 H
  d0 : H0 D = none
  dS : D ∉ S
  at_ : H D = some (.lst acc)
  len : acc.length ≤ i
variable {S : List Addr} {I0 H0 : Hp} {R : Nat → List PyData → Hp → Hp → Prop} {i : Nat} {D : Addr} {acc : List V}
def Stab (S : List Addr) (R : Nat → List PyData → Hp → Hp → Prop) : Prop := ∀ i ds I H D o, D ∉ S → I D = none → R i ds I H → R i ds I (upd H D o)
theorem dps_snoc {K : PySem.W.Frag} {I : Hp} {d : PyData} {u : V} : ∀ {xs : List V} {ds : List PyData}, DpAll K I xs ds → Dp K I u d → DpAll K I (xs ++ [u]) (ds ++ [d])
  | _, _, .nil, h => .cons h .nil
  | _, _, .cons a t, h => .cons a (dps_snoc t h)
theorem ms_start (st : Stab S R) (hs : Same I0 H0) (hS : ∀ p ∈ S, H0 p ≠ none) (h0 : R 0 [] I0 H0) (hD : H0 D = none) : MapSt Z S I0 H0 R 0 D [] (upd H0 D (.lst [])) where
  ex := by
    have g : Gr S I0 H0 I0 H0 := .refl hs
    have hI : I0 D = none := by
      cases e : I0 D with
      | none => rfl
      | some o => have := hs _ _ e; rw [hD] at this; cases this
    exact ⟨I0, [], g.tmp hD, hI, .nil, st _ _ _ _ _ _ (fun h => hS D h hD) hI h0⟩
  d0 := hD
  dS := fun h => hS D h hD
  at_ := upd_same
  len := Nat.le_refl _
theorem ms_step (m : MapSt Z S I0 H0 R i D acc H) (st : Stab S R) (hi : i < 16777216)
    (q : ∀ I1 ds, Gr S I0 H0 I1 H → R i ds I1 H → WE X elt σ H fun u H2 => ∃ I2 e, Gr S I1 H I2 H2 ∧ Dp Z.K I2 u e ∧ R (i + 1) (ds ++ [e]) I2 H2) :
    WE X elt σ H fun u H4 => H4 D = some (.lst acc) ∧ acc.length < sizeLine ∧ MapSt Z S I0 H0 R (i + 1) D (acc ++ [u]) (upd H4 D (.lst (acc ++ [u]))) := by
  obtain ⟨I1, ds, g, hI, hd, r⟩ := m.ex
  refine (q I1 ds g r).imp fun u H2 ⟨I2, e, g2, hu, r2⟩ => ?_
  have hD : H2 D = some (.lst acc) := g2.keep _ _ m.at_ m.dS
  have hI2 : I2 D = none := g2.out hI m.at_
  refine ⟨hD, lt_line (by have := m.len; omega), ⟨⟨I2, ds ++ [e], (g.trans g2).mut hI2 (.inr m.d0), hI2, dps_snoc (dps_mono g2.ii hd) hu, st _ _ _ _ _ _ m.dS hI2 r2⟩, m.d0, m.dS, upd_same, ?_⟩⟩
  rw [List.length_append, List.length_cons, List.length_nil]
  have := m.len
  omega
theorem ms_end (m : MapSt Z S I0 H0 R i D acc H) : ∃ I1 I2 ds, R i ds I1 H ∧ Same I1 I2 ∧ Gr S I0 H0 I2 H ∧ Dp Z.K I2 (.ref D) (.list ds) ∧ H0 D = none := by
  obtain ⟨I1, ds, g, hI, hd, r⟩ := m.ex
  have g2 := g.frz m.at_ m.d0
  have s2 : Same I1 (upd I1 D (.lst acc)) := fun p o e => by rw [upd_ne (ne_none e hI)]; exact e
  exact ⟨I1, _, ds, r, s2, g2, dL_of upd_same (dps_mono s2 hd), m.d0⟩
/-- [elt for y in xs] -/
theorem li_mapL {a : Addr} {xs : List V} {y : Str} {py : Pos} (R : Nat → List PyData → Hp → Hp → Prop) (B : Bd Z X N sc M G) (hm : (okM (relS scope sc) N M' && okG (relS scope sc) G' && okS scope M') = true)
    (hs : Same I0 H0) (hS : ∀ p ∈ S, H0 p ≠ none) (st : Stab S R) (hq : SqL X.K I0 a xs) (hlen : xs.length ≤ 16777216) (h0 : R 0 [] I0 H0) (w0 : wipe σ vs = σ0)
    (step : ∀ i x, xs[i]? = some x → ∀ ds I1 H1, Gr S I0 H0 I1 H1 → R i ds I1 H1 → ∃ σ1, Up2 M' σ0 y x σ1 ∧ wipe σ1 vs = σ0 ∧ ∀ X', X'.A = X.A → Bd Z X' N (relS scope sc) M' G' → WE X' elt σ1 H1 fun u H2 => ∃ I2 e, Gr S I1 H1 I2 H2 ∧ Dp Z.K I2 u e ∧ R (i + 1) (ds ++ [e]) I2 H2)
    (fin : ∀ v I1 I2 ds H1, R xs.length ds I1 H1 → Same I1 I2 → Gr S I0 H0 I2 H1 → Dp Z.K I2 v (.list ds) → Q v H1) : LI X scope (Itl X.K a) (.Name y py) elt [] vs σ H0 Q := by
  refine li_list (xs := xs) (fun D r acc H => ∃ i, i ≤ xs.length ∧ r = xs.drop i ∧ MapSt Z S I0 H0 R i D acc H) (fun D hD => ⟨0, Nat.zero_le _, rfl, ms_start st hs hS h0 hD⟩) (fun D r acc H ⟨i, _, _, m⟩ => ?_) ?_ ?_
  · obtain ⟨I1, ds, g, _⟩ := m.ex
    exact (g.ii.trans g.sub).seq hq
  · rintro D x r acc H ⟨i, hi, e, m⟩
    have hlt : i < xs.length := Nat.lt_of_not_le fun h => by rw [List.drop_eq_nil_of_le h] at e; cases e
    rw [List.drop_eq_getElem_cons hlt] at e
    cases e
    obtain ⟨I1, ds, g, _, _, r⟩ := m.ex
    obtain ⟨σ1, hu, hw, _⟩ := step i _ (List.getElem?_eq_getElem hlt) ds I1 H g r
    refine tn_name B hm w0 hu hw fun X' hb B' => (ms_step m st (by omega) fun I1 ds g r => ?_).imp fun u H4 ⟨h1, h2, m'⟩ => ⟨h1, h2, i + 1, hlt, rfl, m'⟩
    obtain ⟨σ1', hu', _, q⟩ := step i _ (List.getElem?_eq_getElem hlt) ds I1 H g r
    obtain ⟨j, hj, e1⟩ := hu.ix
    obtain ⟨j', hj', e2⟩ := hu'.ix
    have hn := (B.blk hb hm)
    obtain ⟨n1, _⟩ := hn.vis j y true hj
    obtain ⟨n2, _⟩ := hn.vis j' y true hj'
    have := nodup_ix hn.nd n1 n2
    subst this
    rw [e1, ← e2]
    exact q X' hb.A B'
  · rintro D acc H ⟨i, hi, e, m⟩
    have hi' : i = xs.length := by
      have : (xs.drop i).length = 0 := by rw [← e]; rfl
      rw [List.length_drop] at this; omega
    subst hi'
    obtain ⟨I1, I2, ds, r, s2, g2, d, _⟩ := ms_end m
    exact fin _ I1 I2 ds H r s2 g2 d
theorem li_mapT {a : Addr} {xs : List V} {y : Str} {py : Pos} (R : Nat → List PyData → Hp → Hp → Prop) (B : Bd Z X N sc M G) (hm : (okM (relS scope sc) N M' && okG (relS scope sc) G' && okS scope M') = true)
    (hs : Same I0 H0) (hS : ∀ p ∈ S, H0 p ≠ none) (st : Stab S R) (hq : SqT X.K I0 a xs) (hlen : xs.length ≤ 16777216) (h0 : R 0 [] I0 H0) (w0 : wipe σ vs = σ0)
    (step : ∀ i x, xs[i]? = some x → ∀ ds I1 H1, Gr S I0 H0 I1 H1 → R i ds I1 H1 → ∃ σ1, Up2 M' σ0 y x σ1 ∧ wipe σ1 vs = σ0 ∧ ∀ X', X'.A = X.A → Bd Z X' N (relS scope sc) M' G' → WE X' elt σ1 H1 fun u H2 => ∃ I2 e, Gr S I1 H1 I2 H2 ∧ Dp Z.K I2 u e ∧ R (i + 1) (ds ++ [e]) I2 H2)
    (fin : ∀ v I1 I2 ds H1, R xs.length ds I1 H1 → Same I1 I2 → Gr S I0 H0 I2 H1 → Dp Z.K I2 v (.list ds) → Q v H1) : LI X scope (Itt X.K a) (.Name y py) elt [] vs σ H0 Q := by
  refine li_tup (xs := xs) (fun D r acc H => ∃ i, i ≤ xs.length ∧ r = xs.drop i ∧ MapSt Z S I0 H0 R i D acc H) (fun D hD => ⟨0, Nat.zero_le _, rfl, ms_start st hs hS h0 hD⟩) (fun D r acc H ⟨i, _, _, m⟩ => ?_) ?_ ?_
  · obtain ⟨I1, ds, g, _⟩ := m.ex
    exact Same.sqT (g.ii.trans g.sub) hq
  · rintro D x r acc H ⟨i, hi, e, m⟩
    have hlt : i < xs.length := Nat.lt_of_not_le fun h => by rw [List.drop_eq_nil_of_le h] at e; cases e
    rw [List.drop_eq_getElem_cons hlt] at e
    cases e
    obtain ⟨I1, ds, g, _, _, r⟩ := m.ex
    obtain ⟨σ1, hu, hw, _⟩ := step i _ (List.getElem?_eq_getElem hlt) ds I1 H g r
    refine tn_name B hm w0 hu hw fun X' hb B' => (ms_step m st (by omega) fun I1 ds g r => ?_).imp fun u H4 ⟨h1, h2, m'⟩ => ⟨h1, h2, i + 1, hlt, rfl, m'⟩
    obtain ⟨σ1', hu', _, q⟩ := step i _ (List.getElem?_eq_getElem hlt) ds I1 H g r
    obtain ⟨j, hj, e1⟩ := hu.ix
    obtain ⟨j', hj', e2⟩ := hu'.ix
    have hn := (B.blk hb hm)
    obtain ⟨n1, _⟩ := hn.vis j y true hj
    obtain ⟨n2, _⟩ := hn.vis j' y true hj'
    have := nodup_ix hn.nd n1 n2
    subst this
    rw [e1, ← e2]
    exact q X' hb.A B'
  · rintro D acc H ⟨i, hi, e, m⟩
    have hi' : i = xs.length := by
      have : (xs.drop i).length = 0 := by rw [← e]; rfl
      rw [List.length_drop] at this; omega
    subst hi'
    obtain ⟨I1, I2, ds, r, s2, g2, d, _⟩ := ms_end m
    exact fin _ I1 I2 ds H r s2 g2 d
/-- [elt for y in range(..)] -/
theorem li_mapR {lo : Int} {n : Nat} {y : Str} {py : Pos} (R : Nat → List PyData → Hp → Hp → Prop) (B : Bd Z X N sc M G) (hm : (okM (relS scope sc) N M' && okG (relS scope sc) G' && okS scope M') = true)
    (hs : Same I0 H0) (hS : ∀ p ∈ S, H0 p ≠ none) (st : Stab S R) (hlen : n ≤ 16777216) (h0 : R 0 [] I0 H0) (w0 : wipe σ vs = σ0)
    (step : ∀ i, i < n → ∃ σ1, Up2 M' σ0 y (.int (lo + (i : Nat))) σ1 ∧ wipe σ1 vs = σ0 ∧ ∀ ds I1 H1, Gr S I0 H0 I1 H1 → R i ds I1 H1 → ∀ X', X'.A = X.A → Bd Z X' N (relS scope sc) M' G' → WE X' elt σ1 H1 fun u H2 => ∃ I2 e, Gr S I1 H1 I2 H2 ∧ Dp Z.K I2 u e ∧ R (i + 1) (ds ++ [e]) I2 H2)
    (fin : ∀ v I1 I2 ds H1, R n ds I1 H1 → Same I1 I2 → Gr S I0 H0 I2 H1 → Dp Z.K I2 v (.list ds) → Q v H1) : LI X scope (Itr lo n) (.Name y py) elt [] vs σ H0 Q := by
  refine li_range (fun D i acc H => MapSt Z S I0 H0 R i D acc H) (fun D hD => ms_start st hs hS h0 hD) ?_ ?_
  · intro D i acc H hlt m
    obtain ⟨σ1, hu, hw, q⟩ := step i hlt
    exact tn_name B hm w0 hu hw fun X' hb B' => ms_step m st (by omega) fun I1 ds g r => q ds I1 H g r X' hb.A B'
  · intro D acc H m
    obtain ⟨I1, I2, ds, r, s2, g2, d, _⟩ := ms_end m
    exact fin _ I1 I2 ds H r s2 g2 d
/-- [elt for y, z in zip(xs, ys)] with ys the shorter one or as long -/
theorem li_mapZ {a b : Addr} {xs ys : List V} {y z : Str} {py pz pt : Pos} {k : Nat} (R : Nat → List PyData → Hp → Hp → Prop) (B : Bd Z X N sc M G) (hm : (okM (relS scope sc) N M' && okG (relS scope sc) G' && okS scope M') = true)
    (hs : Same I0 H0) (hS : ∀ p ∈ S, H0 p ≠ none) (st : Stab S R) (hq : SqL X.K I0 a xs) (hq2 : SqL X.K I0 b ys) (hle : ys.length ≤ xs.length) (hlen : ys.length ≤ 16777216) (h0 : R 0 [] I0 H0) (w0 : wipe σ vs = σ0)
    (step : ∀ i x u, xs[i]? = some x → ys[i]? = some u → ∃ σ1 σ2, Up2 M' σ0 y x σ1 ∧ Up2 M' σ1 z u σ2 ∧ wipe σ2 vs = σ0 ∧ ∀ ds I1 H1, Gr S I0 H0 I1 H1 → R i ds I1 H1 → ∀ X', X'.A = X.A → Bd Z X' N (relS scope sc) M' G' → WE X' elt σ2 H1 fun u H2 => ∃ I2 e, Gr S I1 H1 I2 H2 ∧ Dp Z.K I2 u e ∧ R (i + 1) (ds ++ [e]) I2 H2)
    (fin : ∀ v I1 I2 ds H1, R ys.length ds I1 H1 → Same I1 I2 → Gr S I0 H0 I2 H1 → Dp Z.K I2 v (.list ds) → Q v H1) : LI X scope (Itz X.K a b) (.Tuple [.Name y py, .Name z pz] k pt) elt [] vs σ H0 Q := by
  refine li_zip (xs := xs) (ys := ys) (fun D r s acc H => ∃ i, i ≤ ys.length ∧ r = xs.drop i ∧ s = ys.drop i ∧ MapSt Z S I0 H0 R i D acc H) (fun D hD => ⟨0, Nat.zero_le _, rfl, rfl, ms_start st hs hS h0 hD⟩) (fun D r s acc H ⟨i, _, _, _, m⟩ => ?_) ?_ ?_
  · obtain ⟨I1, ds, g, _⟩ := m.ex
    exact ⟨(g.ii.trans g.sub).seq hq, (g.ii.trans g.sub).seq hq2⟩
  · rintro D x r u s acc H T ⟨i, hi, e, e', m⟩ hT
    have hlt : i < ys.length := Nat.lt_of_not_le fun h => by rw [List.drop_eq_nil_of_le h] at e'; cases e'
    rw [List.drop_eq_getElem_cons (Nat.lt_of_lt_of_le hlt hle)] at e
    rw [List.drop_eq_getElem_cons hlt] at e'
    cases e
    cases e'
    obtain ⟨σ1, σ2, hu, hu2, hw, q⟩ := step i _ _ (List.getElem?_eq_getElem (Nat.lt_of_lt_of_le hlt hle)) (List.getElem?_eq_getElem hlt)
    have hTD : T ≠ D := fun z => by rw [z, m.at_] at hT; cases hT
    have m1 : MapSt Z S I0 H0 R i D acc (upd H T (.tup [xs[i], ys[i]])) := by
      obtain ⟨I1, ds, g, h1, h2, h3⟩ := m.ex
      have g' := g.tmp (o := .tup [xs[i], ys[i]]) hT
      have hTI : I1 T = none := by
        cases e : I1 T with
        | none => rfl
        | some o => have := g.sub _ _ e; rw [hT] at this; cases this
      have hTS : T ∉ S := fun z => hS T z (g.dom T hT)
      exact ⟨⟨I1, ds, g', h1, h2, st _ _ _ _ _ _ hTS hTI h3⟩, m.d0, m.dS, by rw [upd_ne (Ne.symm hTD)]; exact m.at_, m.len⟩
    exact tn_pair B hm w0 (.inl (.inl upd_same)) hu hu2 hw fun X' hb B' => (ms_step m1 st (by omega) fun I1 ds g r => q ds I1 _ g r X' hb.A B').imp fun v H4 ⟨h1, h2, m'⟩ => ⟨h1, h2, i + 1, hlt, rfl, rfl, m'⟩
  · rintro D r s acc H hrs ⟨i, hi, e, e', m⟩
    have hi' : i = ys.length := by
      rcases hrs with z | z
      · rw [z] at e
        have : (xs.drop i).length = 0 := by rw [← e]; rfl
        rw [List.length_drop] at this; omega
      · rw [z] at e'
        have : (ys.drop i).length = 0 := by rw [← e']; rfl
        rw [List.length_drop] at this; omega
    subst hi'
    obtain ⟨I1, I2, ds, r, s2, g2, d, _⟩ := ms_end m
    exact fin _ I1 I2 ds H r s2 g2 d
/-- .. strict -/
theorem li_mapZs {a b : Addr} {xs ys : List V} {y z : Str} {py pz pt : Pos} {k : Nat} (R : Nat → List PyData → Hp → Hp → Prop) (B : Bd Z X N sc M G) (hm : (okM (relS scope sc) N M' && okG (relS scope sc) G' && okS scope M') = true)
    (hs : Same I0 H0) (hS : ∀ p ∈ S, H0 p ≠ none) (st : Stab S R) (hq : SqL X.K I0 a xs) (hq2 : SqL X.K I0 b ys) (hle : xs.length = ys.length) (hlen : ys.length ≤ 16777216) (h0 : R 0 [] I0 H0) (w0 : wipe σ vs = σ0)
    (step : ∀ i x u, xs[i]? = some x → ys[i]? = some u → ∃ σ1 σ2, Up2 M' σ0 y x σ1 ∧ Up2 M' σ1 z u σ2 ∧ wipe σ2 vs = σ0 ∧ ∀ ds I1 H1, Gr S I0 H0 I1 H1 → R i ds I1 H1 → ∀ X', X'.A = X.A → Bd Z X' N (relS scope sc) M' G' → WE X' elt σ2 H1 fun u H2 => ∃ I2 e, Gr S I1 H1 I2 H2 ∧ Dp Z.K I2 u e ∧ R (i + 1) (ds ++ [e]) I2 H2)
    (fin : ∀ v I1 I2 ds H1, R ys.length ds I1 H1 → Same I1 I2 → Gr S I0 H0 I2 H1 → Dp Z.K I2 v (.list ds) → Q v H1) : LI X scope (Izs X.K a b) (.Tuple [.Name y py, .Name z pz] k pt) elt [] vs σ H0 Q := by
  refine li_zs (xs := xs) (ys := ys) hle (fun D r s acc H => ∃ i, i ≤ ys.length ∧ r = xs.drop i ∧ s = ys.drop i ∧ MapSt Z S I0 H0 R i D acc H) (fun D hD => ⟨0, Nat.zero_le _, rfl, rfl, ms_start st hs hS h0 hD⟩) (fun D r s acc H ⟨i, _, _, _, m⟩ => ?_) ?_ ?_
  · obtain ⟨I1, ds, g, _⟩ := m.ex
    exact ⟨(g.ii.trans g.sub).seq hq, (g.ii.trans g.sub).seq hq2⟩
  · rintro D x r u s acc H T ⟨i, hi, e, e', m⟩ hT
    have hlt : i < ys.length := Nat.lt_of_not_le fun h => by rw [List.drop_eq_nil_of_le h] at e'; cases e'
    have hlt2 : i < xs.length := by omega
    rw [List.drop_eq_getElem_cons hlt2] at e
    rw [List.drop_eq_getElem_cons hlt] at e'
    cases e
    cases e'
    obtain ⟨σ1, σ2, hu, hu2, hw, q⟩ := step i _ _ (List.getElem?_eq_getElem hlt2) (List.getElem?_eq_getElem hlt)
    have hTD : T ≠ D := fun z => by rw [z, m.at_] at hT; cases hT
    have m1 : MapSt Z S I0 H0 R i D acc (upd H T (.tup [xs[i], ys[i]])) := by
      obtain ⟨I1, ds, g, h1, h2, h3⟩ := m.ex
      have g' := g.tmp (o := .tup [xs[i], ys[i]]) hT
      have hTI : I1 T = none := by
        cases e : I1 T with
        | none => rfl
        | some o => have := g.sub _ _ e; rw [hT] at this; cases this
      have hTS : T ∉ S := fun z => hS T z (g.dom T hT)
      exact ⟨⟨I1, ds, g', h1, h2, st _ _ _ _ _ _ hTS hTI h3⟩, m.d0, m.dS, by rw [upd_ne (Ne.symm hTD)]; exact m.at_, m.len⟩
    exact tn_pair B hm w0 (.inl (.inl upd_same)) hu hu2 hw fun X' hb B' => (ms_step m1 st (by omega) fun I1 ds g r => q ds I1 _ g r X' hb.A B').imp fun v H4 ⟨h1, h2, m'⟩ => ⟨h1, h2, i + 1, hlt, rfl, rfl, m'⟩
  · rintro D acc H ⟨i, hi, e, e', m⟩
    have hi' : i = ys.length := by
      have : (ys.drop i).length = 0 := by rw [← e']; rfl
      rw [List.length_drop] at this; omega
    subst hi'
    obtain ⟨I1, I2, ds, r, s2, g2, d, _⟩ := ms_end m
    exact fin _ I1 I2 ds H r s2 g2 d
/-- .. enumerate -/
theorem li_mapE {a : Addr} {xs : List V} {y z : Str} {py pz pt : Pos} {k : Nat} (R : Nat → List PyData → Hp → Hp → Prop) (B : Bd Z X N sc M G) (hm : (okM (relS scope sc) N M' && okG (relS scope sc) G' && okS scope M') = true)
    (hs : Same I0 H0) (hS : ∀ p ∈ S, H0 p ≠ none) (st : Stab S R) (hq : SqL X.K I0 a xs) (hlen : xs.length ≤ 16777216) (h0 : R 0 [] I0 H0) (w0 : wipe σ vs = σ0)
    (step : ∀ i x, xs[i]? = some x → ∃ σ1 σ2, Up2 M' σ0 y (.int (i : Nat)) σ1 ∧ Up2 M' σ1 z x σ2 ∧ wipe σ2 vs = σ0 ∧ ∀ ds I1 H1, Gr S I0 H0 I1 H1 → R i ds I1 H1 → ∀ X', X'.A = X.A → Bd Z X' N (relS scope sc) M' G' → WE X' elt σ2 H1 fun u H2 => ∃ I2 e, Gr S I1 H1 I2 H2 ∧ Dp Z.K I2 u e ∧ R (i + 1) (ds ++ [e]) I2 H2)
    (fin : ∀ v I1 I2 ds H1, R xs.length ds I1 H1 → Same I1 I2 → Gr S I0 H0 I2 H1 → Dp Z.K I2 v (.list ds) → Q v H1) : LI X scope (Ite X.K a) (.Tuple [.Name y py, .Name z pz] k pt) elt [] vs σ H0 Q := by
  refine li_enum (xs := xs) (fun D i r acc H => i ≤ xs.length ∧ r = xs.drop i ∧ MapSt Z S I0 H0 R i D acc H) (fun D hD => ⟨Nat.zero_le _, rfl, ms_start st hs hS h0 hD⟩) (fun D i r acc H ⟨_, _, m⟩ => ?_) ?_ ?_
  · obtain ⟨I1, ds, g, _⟩ := m.ex
    exact (g.ii.trans g.sub).seq hq
  · rintro D i x r acc H T ⟨hi, e, m⟩ hT
    have hlt : i < xs.length := Nat.lt_of_not_le fun h => by rw [List.drop_eq_nil_of_le h] at e; cases e
    rw [List.drop_eq_getElem_cons hlt] at e
    cases e
    obtain ⟨σ1, σ2, hu, hu2, hw, q⟩ := step i _ (List.getElem?_eq_getElem hlt)
    have hTD : T ≠ D := fun z => by rw [z, m.at_] at hT; cases hT
    have m1 : MapSt Z S I0 H0 R i D acc (upd H T (.tup [.int (i : Nat), xs[i]])) := by
      obtain ⟨I1, ds, g, h1, h2, h3⟩ := m.ex
      have g' := g.tmp (o := .tup [.int (i : Nat), xs[i]]) hT
      have hTI : I1 T = none := by
        cases e : I1 T with
        | none => rfl
        | some o => have := g.sub _ _ e; rw [hT] at this; cases this
      have hTS : T ∉ S := fun z => hS T z (g.dom T hT)
      exact ⟨⟨I1, ds, g', h1, h2, st _ _ _ _ _ _ hTS hTI h3⟩, m.d0, m.dS, by rw [upd_ne (Ne.symm hTD)]; exact m.at_, m.len⟩
    exact tn_pair B hm w0 (.inl (.inl upd_same)) hu hu2 hw fun X' hb B' => (ms_step m1 st (by omega) fun I1 ds g r => q ds I1 _ g r X' hb.A B').imp fun v H4 ⟨h1, h2, m'⟩ => ⟨h1, h2, hlt, rfl, m'⟩
  · rintro D i acc H ⟨hi, e, m⟩
    have hi' : i = xs.length := by
      have : (xs.drop i).length = 0 := by rw [← e]; rfl
      rw [List.length_drop] at this; omega
    subst hi'
    obtain ⟨I1, I2, ds, r, s2, g2, d, _⟩ := ms_end m
    exact fin _ I1 I2 ds H r s2 g2 d
/-- a state that does not matter -/
theorem stab_nil {f : Nat → List PyData → Prop} : Stab S (fun i ds _ _ => f i ds) := fun _ _ _ _ _ _ _ _ h => h
end
end Y

namespace Y
open PySem PySem.Spec PyProof.Rows L2
theorem snocs {α : Type} {xs : List α} {i : Nat} {x : α} (h : xs[i]? = some x) : xs.take (i + 1) = xs.take i ++ [x] := by
  rw [List.take_succ, h]; rfl
theorem same_upd {I H : Hp} {p : Addr} {o : HO} (s : Same I H) (h : H p = none) : Same I (upd I p o) := fun q u e => by rw [upd_ne (ne_none (s _ _ e) h)]; exact e
theorem _root_.L2.DpAll.get' {K : PySem.W.Frag} {I : Hp} : ∀ {vs : List V} {ds : List PyData} {i : Nat} {v : V}, DpAll K I vs ds → vs[i]? = some v → ∃ d, ds[i]? = some d ∧ Dp K I v d
  | _, _, _, _, .nil, h => by simp at h
  | _, _, 0, _, .cons h t, e => by simp at e; subst e; exact ⟨_, rfl, h⟩
  | _, _, i + 1, _, .cons h t, e => by
    obtain ⟨d, e1, e2⟩ := L2.DpAll.get' t (i := i) (by simpa using e)
    exact ⟨d, by simpa using e1, e2⟩
section
variable {Z : Wd} {X X' : Cx} {N : List Str} {sc scope : Scope} {M M' : Msk} {G G' : List Str} {σ σ0 : L2.St} {H : Hp} {p : Pos} {Q : VK} {tg iter elt : Expr} {vs : List Nat} {I0 H0 : Hp}
/-- [elt for y in xs], elt a function of y's data -/
theorem li_pure {a : Addr} {xs : List V} {ds : List PyData} {y : Str} {py : Pos} (f : PyData → PyData) (B : Bd Z X N sc M G) (hm : (okM (relS scope sc) N M' && okG (relS scope sc) G' && okS scope M') = true)
    (hs : Same I0 H0) (hq : SqL Z.K I0 a xs) (hd : DpAll Z.K I0 xs ds) (hlen : ds.length ≤ 16777216) (w0 : wipe σ vs = σ0)
    (step : ∀ d, d ∈ ds → ∀ x, ∃ σ1, Up2 M' σ0 y x σ1 ∧ wipe σ1 vs = σ0 ∧ ∀ I1 H1, Gr [] I0 H0 I1 H1 → Dp Z.K I1 x d → ∀ X', X'.A = X.A → Bd Z X' N (relS scope sc) M' G' → WE X' elt σ1 H1 fun u H2 => ∃ I2, Gr [] I1 H1 I2 H2 ∧ Dp Z.K I2 u (f d))
    (fin : ∀ v I2 H1, Gr [] I0 H0 I2 H1 → Dp Z.K I2 v (.list (ds.map f)) → Q v H1) : LI X scope (Itl X.K a) (.Name y py) elt [] vs σ H0 Q := by
  have hl := hd.len
  refine li_mapL (S := []) (xs := xs) (M' := M') (G' := G') (σ0 := σ0) (I0 := I0) (fun i es _ _ => es = (ds.take i).map f) B hm hs (by simp) stab_nil (by rw [B.K]; exact hq) (by omega) rfl w0 (fun i x hx es I1 H1 g e => ?_) fun v I1 I2 es H1 e s2 g hv => fin v I2 H1 g ?_
  · obtain ⟨d, h1, h2⟩ := hd.get' hx
    obtain ⟨σ1, hu, hw, q⟩ := step d (List.mem_of_getElem? h1) x
    refine ⟨σ1, hu, hw, fun X' hA B' => (q I1 H1 g (dp_mono g.ii h2) X' hA B').imp fun u H2 ⟨I2, g2, hu⟩ => ⟨I2, f d, g2, hu, ?_⟩⟩
    rw [e, snocs h1, List.map_append]; rfl
  · rw [e, hl, List.take_length] at hv; exact hv
theorem li_pureT {a : Addr} {xs : List V} {ds : List PyData} {y : Str} {py : Pos} (f : PyData → PyData) (B : Bd Z X N sc M G) (hm : (okM (relS scope sc) N M' && okG (relS scope sc) G' && okS scope M') = true)
    (hs : Same I0 H0) (hq : SqT Z.K I0 a xs) (hd : DpAll Z.K I0 xs ds) (hlen : ds.length ≤ 16777216) (w0 : wipe σ vs = σ0)
    (step : ∀ d, d ∈ ds → ∀ x, ∃ σ1, Up2 M' σ0 y x σ1 ∧ wipe σ1 vs = σ0 ∧ ∀ I1 H1, Gr [] I0 H0 I1 H1 → Dp Z.K I1 x d → ∀ X', X'.A = X.A → Bd Z X' N (relS scope sc) M' G' → WE X' elt σ1 H1 fun u H2 => ∃ I2, Gr [] I1 H1 I2 H2 ∧ Dp Z.K I2 u (f d))
    (fin : ∀ v I2 H1, Gr [] I0 H0 I2 H1 → Dp Z.K I2 v (.list (ds.map f)) → Q v H1) : LI X scope (Itt X.K a) (.Name y py) elt [] vs σ H0 Q := by
  have hl := hd.len
  refine li_mapT (S := []) (xs := xs) (M' := M') (G' := G') (σ0 := σ0) (I0 := I0) (fun i es _ _ => es = (ds.take i).map f) B hm hs (by simp) stab_nil (by rw [B.K]; exact hq) (by omega) rfl w0 (fun i x hx es I1 H1 g e => ?_) fun v I1 I2 es H1 e s2 g hv => fin v I2 H1 g ?_
  · obtain ⟨d, h1, h2⟩ := hd.get' hx
    obtain ⟨σ1, hu, hw, q⟩ := step d (List.mem_of_getElem? h1) x
    refine ⟨σ1, hu, hw, fun X' hA B' => (q I1 H1 g (dp_mono g.ii h2) X' hA B').imp fun u H2 ⟨I2, g2, hu⟩ => ⟨I2, f d, g2, hu, ?_⟩⟩
    rw [e, snocs h1, List.map_append]; rfl
  · rw [e, hl, List.take_length] at hv; exact hv
end
theorem Bd.cls {Z : Wd} {X : Cx} {N : List Str} {sc : Scope} {M : Msk} {G : List Str} {C : Addr} (B : Bd Z X N sc M G) (h : Cls Z.K C) : Cls X.K C := by rw [B.K]; exact h
theorem Bd.noa {Z : Wd} {X : Cx} {N : List Str} {sc : Scope} {M : Msk} {G : List Str} {C : Addr} {f : Str} (B : Bd Z X N sc M G) (h : NoAttr Z.K C f) : NoAttr X.K C f := by rw [B.K]; exact h
theorem Bd.sqL {Z : Wd} {X : Cx} {N : List Str} {sc : Scope} {M : Msk} {G : List Str} {H : Hp} {a : Addr} {xs : List V} (B : Bd Z X N sc M G) (h : SqL Z.K H a xs) : SqL X.K H a xs := by rw [B.K]; exact h
theorem Bd.sqT {Z : Wd} {X : Cx} {N : List Str} {sc : Scope} {M : Msk} {G : List Str} {H : Hp} {a : Addr} {xs : List V} (B : Bd Z X N sc M G) (h : SqT Z.K H a xs) : SqT X.K H a xs := by rw [B.K]; exact h

section
variable {Z : Wd} {X : Cx} {N : List Str} {sc : Scope} {M : Msk} {G : List Str} {σ : L2.St} {H : Hp} {p : Pos} {Q : VK} {e : Expr} {f : Str}
theorem we_fldI {C : Addr} (B : Bd Z X N sc M G) (c : Cls Z.K C) (n : NoAttr Z.K C f) (q : WE X e σ H fun x H1 => ∃ a dx fs v, x = .ref a ∧ H1 a = some (.ins C dx fs) ∧ fs.lookup f = some v ∧ Q v H1) (hb : attributeBase e f X.env (eval e X.env) = eval e X.env := by with_unfolding_all rfl) : WE X (.Attribute e f p) σ H Q :=
  we_fld (q.imp fun x H1 ⟨a, dx, fs, v, h1, h2, h3, h4⟩ => ⟨a, C, dx, fs, v, h1, h2, B.cls c, B.noa n, h3, h4⟩) hb
end
end Y

namespace Y
open PySem PySem.Spec PyProof.Rows L2
section
variable {Z : Wd} {X X' : Cx} {N : List Str} {sc scope : Scope} {M M' : Msk} {G G' : List Str} {σ σ0 : L2.St} {H : Hp} {p ap : Pos} {Q : VK} {o e : Expr} {S : List Addr} {I0 H0 : Hp} {R : Nat → List PyData → Hp → Hp → Prop} {i : Nat} {D : Addr} {acc : List V}
/-- o.append(e), o.extend(e), o.pop() of a list -/
theorem we_append (q : WE X o σ H fun x H1 => ∃ l xs, x = .ref l ∧ H1 l = some (.lst xs) ∧ WE X e σ H1 fun y H2 => ∃ ys, H2 l = some (.lst ys) ∧ ys.length < 16777216 ∧ Q .non (upd H2 l (.lst (ys ++ [y]))))
    (hb : attributeBase o "append" X.env (eval o X.env) = eval o X.env := by with_unfolding_all rfl)
    (hf : ((backTo p (starEach [e] X.env)).all (fun x => !x.1) && (backToKw p (keywordEach [] X.env)).all (fun x => x.1.isSome) && decide ([e].length + ([] : List Keyword).length + (if ([] : List Keyword).isEmpty then 0 else 1) < 30)) = true := by with_unfolding_all rfl)
    (hl : (ap.endLine == p.line) = true := by with_unfolding_all rfl) (hs : starEach [e] X.env = (false, eval e X.env) :: starEach [] X.env := by with_unfolding_all rfl) (hp : (backTo p (starEach [] X.env)).any (·.1) = false := by with_unfolding_all rfl) : WE X (.Call (.Attribute o "append" ap) [e] [] p) σ H Q :=
  we_bm PySem.F.plainAttrs_list PySem.F.slot_list_append PySem.F.type_list_append (q.imp fun x H1 ⟨l, xs, e1, e2, q1⟩ => ⟨by subst e1; exact .inl ⟨rfl, xs, .inl (.inl e2)⟩, wa_cons (q1.imp fun y H2 ⟨ys, h1, h2, h3⟩ => wa_nil (by subst e1; exact mo_append h1 h2 h3)) hs⟩) hb hf hl hs hp
theorem we_extend (q : WE X o σ H fun x H1 => ∃ l xs, x = .ref l ∧ H1 l = some (.lst xs) ∧ WE X e σ H1 fun y H2 => ∃ b ys zs, y = .ref b ∧ H2 l = some (.lst ys) ∧ H2 b = some (.lst zs) ∧ ys.length + zs.length ≤ 16777216 ∧ Q .non (upd H2 l (.lst (ys ++ zs))))
    (hb : attributeBase o "extend" X.env (eval o X.env) = eval o X.env := by with_unfolding_all rfl)
    (hf : ((backTo p (starEach [e] X.env)).all (fun x => !x.1) && (backToKw p (keywordEach [] X.env)).all (fun x => x.1.isSome) && decide ([e].length + ([] : List Keyword).length + (if ([] : List Keyword).isEmpty then 0 else 1) < 30)) = true := by with_unfolding_all rfl)
    (hl : (ap.endLine == p.line) = true := by with_unfolding_all rfl) (hs : starEach [e] X.env = (false, eval e X.env) :: starEach [] X.env := by with_unfolding_all rfl) (hp : (backTo p (starEach [] X.env)).any (·.1) = false := by with_unfolding_all rfl) : WE X (.Call (.Attribute o "extend" ap) [e] [] p) σ H Q :=
  we_bm PySem.F.plainAttrs_list PySem.F.slot_list_extend PySem.F.type_list_extend (q.imp fun x H1 ⟨l, xs, e1, e2, q1⟩ => ⟨by subst e1; exact .inl ⟨rfl, xs, .inl (.inl e2)⟩, wa_cons (q1.imp fun y H2 ⟨b, ys, zs, ey, h1, h2, h3, h4⟩ => wa_nil (by subst e1 ey; exact mo_extend h1 h2 h3 h4)) hs⟩) hb hf hl hs hp
theorem we_pop (q : WE X o σ H fun x H1 => ∃ l xs y, x = .ref l ∧ H1 l = some (.lst xs) ∧ xs[xs.length - 1]? = some y ∧ Q y (upd H1 l (.lst xs.dropLast))) (hb : attributeBase o "pop" X.env (eval o X.env) = eval o X.env := by with_unfolding_all rfl) (hl : (ap.endLine == p.line) = true := by with_unfolding_all rfl) : WE X (.Call (.Attribute o "pop" ap) [] [] p) σ H Q :=
  we_bm0 PySem.F.plainAttrs_list PySem.F.slot_list_pop PySem.F.type_list_pop (q.imp fun x H1 ⟨l, xs, y, e1, e2, e3, q1⟩ => ⟨by subst e1; exact .inl ⟨rfl, xs, .inl (.inl e2)⟩, by subst e1; exact mo_pop e2 e3 q1⟩) hb hl
theorem exv {i : Int} {P : Int → Prop} (q : P i) : ∃ c, V.int i = .int c ∧ P c := ⟨i, rfl, q⟩
theorem we_neg {a : Expr} (q : WE X a σ H fun x H1 => ∃ i, x = .int i ∧ Q (.int (-i)) H1) : WE X (.UnaryOp .USub a p) σ H Q := we_un (q.imp fun x H1 ⟨i, e, h⟩ => uO un_neg ⟨i, e, h⟩)
theorem we_negC {i : Int} {j : Nat} {p1 : Pos} (q : Q (.int (-i)) H) : WE X (.UnaryOp .USub (.Constant (.int i) j p1) p) σ H Q := we_neg (we_int ⟨i, rfl, q⟩)
theorem MapSt.next {u : V} {I1 I2 : Hp} {H2 : Hp} {ds : List PyData} {e : PyData} (m : MapSt Z S I0 H0 R i D acc H) (st : Stab S R) (g : Gr S I0 H0 I1 H) (hI : I1 D = none) (hd : DpAll Z.K I1 acc ds) (g2 : Gr S I1 H I2 H2) (hu : Dp Z.K I2 u e) (r2 : R (i + 1) (ds ++ [e]) I2 H2) :
    H2 D = some (.lst acc) ∧ MapSt Z S I0 H0 R (i + 1) D (acc ++ [u]) (upd H2 D (.lst (acc ++ [u]))) := by
  have hD : H2 D = some (.lst acc) := g2.keep _ _ m.at_ m.dS
  have hI2 : I2 D = none := g2.out hI m.at_
  refine ⟨hD, ⟨⟨I2, ds ++ [e], (g.trans g2).mut hI2 (.inr m.d0), hI2, dps_snoc (dps_mono g2.ii hd) hu, st _ _ _ _ _ _ m.dS hI2 r2⟩, m.d0, m.dS, upd_same, ?_⟩⟩
  rw [List.length_append, List.length_cons, List.length_nil]
  have := m.len
  omega
theorem MapSt.tmp {T : Addr} {o : HO} (m : MapSt Z S I0 H0 R i D acc H) (st : Stab S R) (hS : ∀ p ∈ S, H0 p ≠ none) (hT : H T = none) : MapSt Z S I0 H0 R i D acc (upd H T o) := by
  obtain ⟨I1, ds, g, h1, h2, h3⟩ := m.ex
  have hTD : T ≠ D := fun z => by rw [z, m.at_] at hT; cases hT
  have hTI : I1 T = none := by
    cases e : I1 T with
    | none => rfl
    | some o => have := g.sub _ _ e; rw [hT] at this; cases this
  exact ⟨⟨I1, ds, g.tmp hT, h1, h2, st _ _ _ _ _ _ (fun z => hS T z (g.dom T hT)) hTI h3⟩, m.d0, m.dS, by rw [upd_ne (Ne.symm hTD)]; exact m.at_, m.len⟩
end
end Y

/-! Y13: a dict whose keys are whole numbers and nested tuples, side by side -/
namespace Y
open PySem PySem.Spec PyProof.Rows L2
section
variable {prog : Program} {w : World} {A : Around} {E : Value → Shared → Prop} {s : Shared}
theorem wp_ite {α : Type} {M : Model} {c : Prop} [Decidable c] {x y : Sem α} {Q : α → Shared → Prop} (h1 : c → wpAny M A x Q E s) (h2 : ¬ c → wpAny M A y Q E s) : wpAny M A (if c then x else y) Q E s := by
  by_cases h : c
  · rw [if_pos h]; exact h1 h
  · rw [if_neg h]; exact h2 h
/-- the entries of a table of keys -/
structure MxE (w : World) (h : Heap) (es : Array DictEntry) (ks : List NestedKey) : Prop where
  len : es.size = ks.length
  at_ : ∀ (j : Nat) (e : DictEntry), es[j]? = some e → ∃ q, ks[j]? = some q ∧ e.hash = q.hash w ∧ NestedIs h q e.key ∧ q.depth ≤ 8
theorem mx_tell {key : Value} {k : NestedKey} {vs : List Value} {Q : Bool → Shared → Prop} (hk : NestedIs s.heap k key) (hd : k.depth ≤ 8) (hv : ∀ v ∈ vs, ∃ q, NestedIs s.heap q v ∧ q.depth ≤ 8) (h : Q false s) : wpAny (model prog w) A (tableMayTell key vs) Q E s := by
  unfold tableMayTell
  by_cases e : vs.isEmpty = true
  · rw [if_pos e]; exact wpAny_pure h
  · rw [if_neg e]
    refine wpAny_bind (quiet_key k key 8 s hk hd A E _ ?_)
    rw [if_neg (by decide)]
    refine wpAny_bind (wpAny_forIn_list _ (fun us b t => t = s ∧ b = (none, ()) ∧ ∀ v ∈ us, ∃ q, NestedIs s.heap q v ∧ q.depth ≤ 8) _ ?_ ?_ _ _ ⟨rfl, rfl, hv⟩)
    · rintro v us b t ⟨rfl, rfl, hu⟩
      obtain ⟨q, h1, h2⟩ := hu v (by simp)
      refine wpAny_bind (quiet_key q v 8 t h1 h2 A E _ ?_)
      rw [if_neg (by decide)]
      exact wpAny_pure ⟨rfl, rfl, fun u hm => hu u (by simp [hm])⟩
    · rintro b t ⟨rfl, rfl, _⟩
      exact wpAny_pure h
theorem mx_places {es : Array DictEntry} {ks : List NestedKey} {hp : Heap} (me : MxE w hp es ks) (k : NestedKey) : (∀ i ∈ placesWithHash es.size (fun i : Nat => es[i]?.map (·.hash)) (k.hash w), ∃ e q, es[i]? = some e ∧ ks[i]? = some q ∧ e.hash = q.hash w ∧ q.hash w = k.hash w ∧ NestedIs hp q e.key ∧ q.depth ≤ 8) ∧
    (∀ j : Nat, ks[j]? = some k → j ∈ placesWithHash es.size (fun i : Nat => es[i]?.map (·.hash)) (k.hash w)) ∧ (placesWithHash es.size (fun i : Nat => es[i]?.map (·.hash)) (k.hash w)).Nodup := by
  refine ⟨fun i hi => ?_, fun j hj => ?_, List.Nodup.sublist List.filter_sublist List.nodup_range⟩
  · unfold placesWithHash at hi
    obtain ⟨h1, h2⟩ := List.mem_filter.mp hi
    have hlt : i < es.size := List.mem_range.mp h1
    have he : es[i]? = some es[i] := Array.getElem?_eq_getElem hlt
    obtain ⟨q, a1, a2, a3, a4⟩ := me.at_ i _ he
    dsimp only at h2
    rw [he] at h2
    have h3 : es[i].hash = k.hash w := by simpa using h2
    exact ⟨_, q, he, a1, a2, by rw [← a2, h3], a3, a4⟩
  · unfold placesWithHash
    have hlt : j < es.size := by rw [me.len]; exact (List.getElem?_eq_some_iff.mp hj).1
    have he : es[j]? = some es[j] := Array.getElem?_eq_getElem hlt
    obtain ⟨q, a1, a2, _⟩ := me.at_ j _ he
    rw [hj] at a1
    cases a1
    refine List.mem_filter.mpr ⟨List.mem_range.mpr hlt, ?_⟩
    dsimp only
    rw [he]; simp [a2]
theorem mx_plain {d : Addr} {key : Value} {o : Obj} {es : Array DictEntry} {ep : Nat} {ks : List NestedKey} {k : NestedKey} {Q : Option Nat → Shared → Prop} (hu : A.units + 8 < cLine) (hk : NestedIs s.heap k key) (hkd : k.depth ≤ 8) (ho : s.heap.get? d = some o) (hd : o.data = .dict es ep)
    (me : MxE w s.heap es ks) (hn : ks.Nodup) (h0 : (∀ j : Nat, ks[j]? ≠ some k) → Q none s) (h1 : ∀ j : Nat, ks[j]? = some k → Q (some j) s) :
    wpAny (model prog w) A (dictWalkPlain d key (k.hash w) es (placesWithHash es.size (fun i : Nat => es[i]?.map (·.hash)) (k.hash w))) Q E s := by
  obtain ⟨p1, p2, p3⟩ := mx_places me k
  unfold dictWalkPlain
  refine wpAny_bind (wpAny_forIn_list _ (fun r b t => t = s ∧ b = (none, ()) ∧ (∀ j : Nat, ks[j]? = some k → j ∈ r) ∧ ∀ i ∈ r, i ∈ placesWithHash es.size (fun i : Nat => es[i]?.map (·.hash)) (k.hash w)) _ ?_ ?_ _ _ ⟨rfl, rfl, p2, fun _ h => h⟩)
  · rintro i r b t ⟨rfl, rfl, hin, hall⟩
    obtain ⟨e, q, e1, e2, e3, e4, e5, e6⟩ := p1 i (hall i (by simp))
    rw [e1]
    dsimp only
    rw [if_pos (by rw [e3, e4]; simp)]
    refine wpAny_bind (wpAny_dictEpoch ho hd (wpAny_bind (eqAt_key q k A t e.key key e5 hk (by omega) prog w E _ (wpAny_bind (wpAny_dictEpoch ho hd ?_)))))
    rw [if_neg (by simp)]
    by_cases hqk : q = k
    · subst hqk
      rw [NestedKey.beq_self, if_pos rfl]
      refine wpAny_bind (wpAny_rule (wpAny_pure (wpAny_pure (h1 i e2))))
    · have hb : NestedKey.beq q k = false := by rw [← NestedKey.decide_eq]; exact decide_eq_false hqk
      rw [hb, if_neg (by decide)]
      refine wpAny_bind (wpAny_rule (wpAny_pure ⟨rfl, rfl, fun j hj => ?_, fun x hx => hall x (by simp [hx])⟩))
      rcases List.mem_cons.mp (hin j hj) with z | z
      · subst z; rw [e2] at hj; cases hj; exact absurd rfl hqk
      · exact z
  · rintro b t ⟨rfl, rfl, hin, _⟩
    exact wpAny_pure (h0 fun j hj => by have := hin j hj; cases this)
theorem mx_find {d : Addr} {key : Value} {o : Obj} {es : Array DictEntry} {ep : Nat} {ks : List NestedKey} {k : NestedKey} {Q : Option Nat → Shared → Prop} (hu : A.units + 8 < cLine) (hk : NestedIs s.heap k key) (hkd : k.depth ≤ 8) (hns : ∀ x t, key ≠ .str x t) (ho : s.heap.get? d = some o) (hd : o.data = .dict es ep)
    (me : MxE w s.heap es ks) (hn : ks.Nodup) (h0 : (∀ j : Nat, ks[j]? ≠ some k) → Q none s) (h1 : ∀ j : Nat, ks[j]? = some k → Q (some j) s) : wpAny (model prog w) A (dictFind d key (k.hash w)) Q E s := by
  obtain ⟨p1, p2, p3⟩ := mx_places me k
  unfold dictFind
  refine wpAny_holding (wpAny_bind (wpAny_dictEntries ho hd ?_))
  have hst : ∀ v ∈ (placesWithHash es.size (fun i : Nat => es[i]?.map (·.hash)) (k.hash w)).filterMap (fun i => es[i]?.map (·.key)), ∃ q, NestedIs s.heap q v ∧ q.depth ≤ 8 := by
    intro v hv
    obtain ⟨i, hi, hie⟩ := List.mem_filterMap.mp hv
    obtain ⟨e, q, e1, _, _, _, e5, e6⟩ := p1 i hi
    rw [e1] at hie
    cases hie
    exact ⟨q, e5, e6⟩
  have hany : ∀ a, key = Value.ref a → ¬ (es.any fun e => e.key == Value.ref a && e.hash != k.hash w) = true := by
    rintro a rfl hz
    rw [← Array.any_toList, List.any_eq_true] at hz
    obtain ⟨e, hm, hc⟩ := hz
    obtain ⟨j, hj⟩ := List.mem_iff_getElem?.mp hm
    rw [Array.getElem?_toList] at hj
    obtain ⟨q, _, a2, a3, _⟩ := me.at_ j e hj
    simp only [Bool.and_eq_true, beq_iff_eq, bne_iff_ne, ne_eq] at hc
    rw [hc.1] at a3
    have := NestedIs.inj _ _ _ a3 hk
    subst this
    exact hc.2 a2
  have uq : ∀ {i j : Nat}, ks[i]? = some k → ks[j]? = some k → i = j := fun {i j} a b => (List.getElem?_inj (List.getElem?_eq_some_iff.mp a).1 hn).mp (a.trans b.symm)
  cases key
  case str => exact absurd rfl (hns _ _)
  all_goals try (exfalso; cases hk; done)
  all_goals
    dsimp only
    generalize hP : placesWithHash es.size (fun i : Nat => es[i]?.map (·.hash)) (k.hash w) = P at p1 p2 p3 hst ⊢
    generalize hS : P.filterMap (fun i => es[i]?.map (·.key)) = S at hst ⊢
    refine wp_ite (fun hall => ?_) (fun hall => ?_)
    · rw [← hP]
      exact mx_plain hu hk hkd ho hd me hn h0 h1
    first | refine wp_ite (fun h => absurd h (hany _ rfl)) (fun _ => ?_) | skip
    refine wp_ite (fun _ => wpAny_bind (wpAny_pure ?_)) (fun _ => wpAny_bind (mx_tell hk hkd hst ?_))
    all_goals
      refine wp_ite (fun h => absurd h (by simp)) fun _ => ?_
      refine wpAny_bind (wpAny_forIn_list _ (fun r b t => t = s ∧ (∀ i ∈ r, i ∈ P) ∧ r.Nodup ∧ ∃ hit, b = (none, hit) ∧ (∀ j : Nat, ks[j]? = some k → j ∈ r ∨ hit = some j) ∧ (∀ j : Nat, hit = some j → ks[j]? = some k ∧ j ∉ r)) _ ?_ ?_ _ _
        ⟨rfl, fun _ h => h, p3, none, rfl, fun j h => .inl (p2 j h), fun j h => nomatch h⟩)
      · rintro i r b t ⟨rfl, hin, hnd, hit, rfl, g1, g2⟩
        obtain ⟨e, q, e1, e2, e3, e4, e5, e6⟩ := p1 i (hin i (by simp))
        rw [List.nodup_cons] at hnd
        rw [e1]
        dsimp only
        refine wp_ite (fun _ => ?_) (fun h => absurd (by rw [e3, e4]; simp) h)
        refine wpAny_bind (wpAny_dictEpoch ho hd (wpAny_bind (eqAt_key q k A t e.key _ e5 hk (by omega) prog w E _ (wpAny_bind (wpAny_dictEpoch ho hd ?_)))))
        refine wp_ite (fun h => absurd h (by simp)) fun _ => ?_
        by_cases hqk : q = k
        · rw [hqk] at e2
          rw [hqk, NestedKey.beq_self]
          refine wp_ite (fun _ => ?_) (fun h => absurd rfl h)
          have hh : hit = none := by
            cases hit with
            | none => rfl
            | some j =>
              obtain ⟨a1, a2⟩ := g2 j rfl
              have := uq a1 e2
              subst this
              exact absurd (by simp) a2
          subst hh
          refine wp_ite (fun h => absurd h (by simp)) fun _ => wpAny_bind (wpAny_rule ?_)
          refine wp_ite (fun _ => wpAny_pure (wpAny_pure (h1 i e2))) fun _ => wpAny_pure ⟨rfl, fun x hx => hin x (by simp [hx]), hnd.2, some i, rfl, fun j hj => .inr (by rw [uq hj e2]), fun j h => ?_⟩
          cases h
          exact ⟨e2, hnd.1⟩
        · have hb : NestedKey.beq q k = false := by rw [← NestedKey.decide_eq]; exact decide_eq_false hqk
          rw [hb]
          refine wp_ite (fun h => by cases h) fun _ => wpAny_bind (wpAny_rule ?_)
          refine wp_ite (fun h => absurd h (by simp)) fun _ => wpAny_pure ⟨rfl, fun x hx => hin x (by simp [hx]), hnd.2, hit, rfl, fun j hj => ?_, fun j h => ?_⟩
          · rcases g1 j hj with z | z
            · rcases List.mem_cons.mp z with z | z
              · subst z; rw [e2] at hj; cases hj; exact absurd rfl hqk
              · exact .inl z
            · exact .inr z
          · obtain ⟨a1, a2⟩ := g2 j h
            exact ⟨a1, fun z => a2 (by simp [z])⟩
      · rintro b t ⟨rfl, _, _, hit, rfl, g1, g2⟩
        dsimp only
        cases hit with
        | none => exact wpAny_pure (h0 fun j hj => by rcases g1 j hj with z | z <;> cases z)
        | some j => exact wpAny_pure (h1 j (g2 j rfl).1)

/-! ### the table's object -/
end
/-- the mixed table at d: key, its value, the value -/
def MxAt (w : World) (h : Heap) (d : Addr) (xs : List (NestedKey × V × V)) : Prop := ∃ o es ep, h.get? d = some o ∧ o.ExactDict ∧ o.data = .dict es ep ∧ es.size = xs.length ∧ ∀ (j : Nat) (e : DictEntry) (x : NestedKey × V × V), es[j]? = some e → xs[j]? = some x → e.hash = x.1.hash w ∧ RelV x.2.1 e.key ∧ RelV x.2.2 e.val
def MxD (w : World) (d : Addr) (xs : List (NestedKey × V × V)) : HO := .ext fun h => MxAt w h d xs
theorem mxd_ok {P : Program} {w w' : World} {H : Hp} {h : Heap} {d : Addr} {xs : List (NestedKey × V × V)} (m : MxAt w h d xs) : ObjOk P w' H h d (MxD w d xs) := by
  obtain ⟨o, es, ep, h1, h2⟩ := m
  exact ⟨⟨o, es, ep, h1, h2⟩, ⟨o, h1⟩, fun ha hb ⟨o', es', ep', g1, g2⟩ k => ⟨o', es', ep', k _ g1, g2⟩⟩
/-- in the heap H the value v is the key k -/
def NkV (K : PySem.W.Frag) (H : Hp) (k : NestedKey) (v : V) : Prop := ∀ (X : Cx) (pins : List (Addr × Obj)) (σ : L2.St) (s : Shared) (u : Value), X.K = K → Inv X pins σ H s → RelV v u → NestedIs s.heap k u
def putX (xs : List (NestedKey × V × V)) (k : NestedKey) (kv v : V) : List (NestedKey × V × V) := if k ∈ xs.map (·.1) then xs.map (fun x => if x.1 = k then (x.1, x.2.1, v) else x) else xs ++ [(k, kv, v)]
theorem putX_keys (xs : List (NestedKey × V × V)) (k : NestedKey) (kv v : V) : (putX xs k kv v).map (·.1) = if k ∈ xs.map (·.1) then xs.map (·.1) else xs.map (·.1) ++ [k] := by
  unfold putX
  split
  · rw [List.map_map]
    refine List.map_congr_left fun x _ => ?_
    show (if x.1 = k then (x.1, x.2.1, v) else x).1 = x.1
    split <;> rfl
  · rw [List.map_append]; rfl
theorem putX_nodup {xs : List (NestedKey × V × V)} {k : NestedKey} {kv v : V} (h : (xs.map (·.1)).Nodup) : ((putX xs k kv v).map (·.1)).Nodup := by
  rw [putX_keys]
  split
  · exact h
  · rename_i hn
    rw [List.nodup_append]
    exact ⟨h, by simp, fun a ha b hb e => by rw [List.mem_singleton] at hb; subst hb; subst e; exact hn ha⟩
theorem putX_mem {xs : List (NestedKey × V × V)} {k : NestedKey} {kv v : V} {x : NestedKey × V × V} (h : x ∈ putX xs k kv v) : (x.1 = k ∧ x.2.2 = v ∧ (x.2.1 = kv ∨ ∃ y ∈ xs, y.1 = k ∧ y.2.1 = x.2.1)) ∨ (x ∈ xs ∧ x.1 ≠ k) := by
  unfold putX at h
  split at h
  · obtain ⟨y, hy, rfl⟩ := List.mem_map.mp h
    by_cases e : y.1 = k
    · rw [if_pos e]; exact .inl ⟨e, rfl, .inr ⟨y, hy, e, rfl⟩⟩
    · rw [if_neg e]; exact .inr ⟨hy, e⟩
  · rename_i hn
    rcases List.mem_append.mp h with h | h
    · exact .inr ⟨h, fun e => hn (List.mem_map.mpr ⟨x, h, e⟩)⟩
    · rw [List.mem_singleton] at h; subst h; exact .inl ⟨rfl, rfl, .inl rfl⟩
section
variable {Z : Wd} {X : Cx} {N : List Str} {sc : Scope} {M : Msk} {G : List Str} {σ : L2.St} {H : Hp} {Q : VK} {d : Addr} {xs : List (NestedKey × V × V)} {k : NestedKey} {key val : V} {n : Nat}
/-- what a lookup needs -/
structure MxK (K : PySem.W.Frag) (H : Hp) (xs : List (NestedKey × V × V)) (k : NestedKey) (key : V) : Prop where
  all : ∀ x ∈ xs, NkV K H x.1 x.2.1 ∧ x.1.depth ≤ 8
  nd : (xs.map (·.1)).Nodup
  kk : NkV K H k key
  dp : k.depth ≤ 8
  ns : ∀ x, key ≠ V.str x
theorem mx_start {pins : List (Addr × Obj)} {s : Shared} {u : Value} (B : Bd Z X N sc M G) (I : Inv X pins σ H s) (hd : H d = some (MxD Z.w d xs)) (m : MxK Z.K H xs k key) (r : RelV key u) :
    ∃ o es ep, s.heap.get? d = some o ∧ o.ExactDict ∧ o.data = .dict es ep ∧ MxE X.w s.heap es (xs.map (·.1)) ∧ es.size = xs.length ∧ (∀ (j : Nat) (e : DictEntry) (x : NestedKey × V × V), es[j]? = some e → xs[j]? = some x → e.hash = x.1.hash Z.w ∧ RelV x.2.1 e.key ∧ RelV x.2.2 e.val) ∧ NestedIs s.heap k u ∧ ∀ x t, u ≠ .str x t := by
  obtain ⟨⟨o, es, ep, h1, h2, h3, h4, h5⟩, _, _⟩ := I.hok d _ hd
  refine ⟨o, es, ep, h1, h2, h3, ⟨by rw [List.length_map]; exact h4, fun j e he => ?_⟩, h4, h5, m.kk X pins σ s u B.K I r, fun x t e => ?_⟩
  · have hj : j < xs.length := by rw [← h4]; exact (Array.getElem?_eq_some_iff.mp he).1
    have hx : xs[j]? = some xs[j] := List.getElem?_eq_getElem hj
    obtain ⟨a1, a2, _⟩ := h5 j e _ he hx
    obtain ⟨b1, b2⟩ := m.all _ (List.getElem_mem hj)
    exact ⟨xs[j].1, by rw [List.getElem?_map, hx]; rfl, by rw [B.w]; exact a1, b1 X pins σ s _ B.K I a2, b2⟩
  · subst e
    have h : ∃ z, key = .str z := by
      cases key
      all_goals first | exact ⟨_, rfl⟩ | (exfalso; have r' := r; first | (obtain ⟨_, e⟩ := r'; cases e; done) | (cases r'; done))
    obtain ⟨z, e⟩ := h
    exact m.ns z e
theorem io_mx {j : Nat} {kv : V} (B : Bd Z X N sc M G) (hr : Room n X.A) (hd : H d = some (MxD Z.w d xs)) (m : MxK Z.K H xs k key) (hj : xs[j]? = some (k, kv, val)) (q : Q val H) : IO X (.ref d) key H Q := by
  intro value slice pins s σ v u I r1 r2 e
  cases r1
  obtain ⟨o, es, ep, h1, h2, h3, me, h4, h5, hk, hns⟩ := mx_start B I hd m r2
  have hT : s.TypeIs (.ref d) "dict" := ⟨o, h1, h2.1⟩
  have hu : X.A.in1.units + 8 < cLine := by have := hr.un; show X.A.units + 1 + 8 < cLine; omega
  refine tail_any (ops := [.ref d, u]) hT PySem.slot_dict_getitem.lookup ?_ e
  unfold getItem
  refine wpAny_holding (wpAny_bind (wpAny_sequenceKey hT (by decide) (wpAny_bind (wpAny_callSpecial?_slot (name := Str.ofString "__getitem__") hT PySem.slot_dict_getitem (wpAny_call_entry PySem.slot_dict_getitem hT PySem.entry_dict_getitem ?_ (PySem.args_dict_getitem _ _))))))
  show wpAny _ _ (dictGet d u >>= _) _ _ s
  refine wpAny_bind ?_
  unfold dictGet
  refine wpAny_holding (wpAny_bind (pyHash_key k u _ s _ hk (by have := m.dp; omega) (wpAny_bind (mx_find (s := { s with toks := s.toks + k.draws }) hu hk m.dp hns h1 h3 me m.nd (fun hno => ?_) fun i hi => ?_))))
  · exact absurd (by rw [List.getElem?_map, hj]; rfl) (hno j)
  · have hij : i = j := (List.getElem?_inj (List.getElem?_eq_some_iff.mp hi).1 m.nd).mp (hi.trans (by rw [List.getElem?_map, hj]; rfl))
    subst hij
    have hlt : i < es.size := by rw [h4]; exact (List.getElem?_eq_some_iff.mp hj).1
    have he : es[i]? = some es[i] := Array.getElem?_eq_getElem hlt
    obtain ⟨_, _, a3⟩ := h5 i _ _ he hj
    refine wpAny_bind (wpAny_dictEntries (s := { s with toks := s.toks + k.draws }) h1 h3 ?_)
    rw [he]
    refine wpAny_pure (wpAny_pure ⟨es[i].val, rfl, wpAny_pure ?_⟩)
    exact ⟨val, H, I.tok _, a3, q⟩
theorem se_mx {R : Hp → Prop} (B : Bd Z X N sc M G) (hr : Room n X.A) (hd : H d = some (MxD Z.w d xs)) (m : MxK Z.K H xs k key) (hz : xs.length < 16777216) (q : R (upd H d (MxD Z.w d (putX xs k key val)))) : SE X (.ref d) key val H R := by
  intro pins s σ ov iv u I r1 r2 r3
  cases r1
  obtain ⟨o, es, ep, h1, h2, h3, me, h4, h5, hk, hns⟩ := mx_start B I hd m r2
  have hT : s.TypeIs (.ref d) "dict" := ⟨o, h1, h2.1⟩
  have hu : X.A.in1.units + 8 < cLine := by have := hr.un; show X.A.units + 1 + 8 < cLine; omega
  have fin : ∀ (h' : Heap) (es' : Array DictEntry) (ep' : Nat) (o' : Obj), h'.get? d = some o' → o'.ExactDict → o'.data = .dict es' ep' → es'.size = (putX xs k key val).length → (∀ (j : Nat) (e : DictEntry) (x : NestedKey × V × V), es'[j]? = some e → (putX xs k key val)[j]? = some x → e.hash = x.1.hash Z.w ∧ RelV x.2.1 e.key ∧ RelV x.2.2 e.val) → Heap.SameBut d s.heap h' →
      ∃ H', Inv X pins σ H' { s with heap := h', toks := s.toks + k.draws } ∧ R H' := fun h' es' ep' o' g1 g2 g3 g4 g5 sb =>
    ⟨_, d_write I (by rw [hd]; exact True.intro) sb ⟨o', g1⟩ (mxd_ok ⟨o', es', ep', g1, g2, g3, g4, g5⟩), q⟩
  unfold setItem
  refine wpAny_holding (wpAny_bind (wpAny_sequenceKey hT (by decide) (wpAny_bind (wpAny_callSpecial?_slot (name := Str.ofString "__setitem__") hT PySem.slot_dict_setitem (wpAny_call_entry PySem.slot_dict_setitem hT PySem.entry_dict_setitem ?_ (PySem.args_dict_setitem _ _ _))))))
  show wpAny _ _ (Builtin.Dict.notOrdered "__setitem__" ⟨[.ref d, iv, u], []⟩ >>= _) _ _ s
  refine wpAny_bind (wpAny_notOrdered_dict hT ?_)
  show wpAny _ _ (dictSet d iv u >>= _) _ _ s
  refine wpAny_bind ?_
  unfold dictSet
  refine wpAny_holding (wpAny_bind (pyHash_key k iv _ s _ hk (by have := m.dp; omega) ?_))
  unfold dictSetHashed
  refine wpAny_holding (wpAny_bind (mx_find (s := { s with toks := s.toks + k.draws }) hu hk m.dp hns h1 h3 me m.nd (fun hno => ?_) fun i hi => ?_))
  · have hnm : k ∉ xs.map (·.1) := fun hm => by obtain ⟨j, hj⟩ := List.mem_iff_getElem?.mp hm; exact hno j hj
    have hpx : putX xs k key val = xs ++ [(k, key, val)] := by unfold putX; rw [if_neg hnm]
    refine wpAny_bind (wpAny_rule (wpAny_updateDictKeys (hz := by rw [h4]; exact le_line (by omega)) (s := { s with toks := s.toks + k.draws }) h1 h3 (wpAny_pure ⟨.none, rfl, wpAny_pure ?_⟩)))
    refine fin _ _ _ _ (Heap.get?_update_self _ h1 (Obj.isFreed_of_dict (Obj.data_mapDictKeys h3 _))) (h2.mapDictKeys _) (Obj.data_mapDictKeys h3 _) ?_ (fun j e x he hx => ?_) (Heap.SameBut.update ..)
    · rw [Array.size_push, h4, hpx, List.length_append]; rfl
    · rw [hpx] at hx
      rw [Array.getElem?_push] at he
      by_cases hj : j = es.size
      · rw [if_pos hj] at he
        rw [List.getElem?_append_right (by omega), hj, h4, Nat.sub_self] at hx
        cases he
        cases hx
        exact ⟨by rw [B.w], r2, r3⟩
      · rw [if_neg hj] at he
        have hlt : j < es.size := (Array.getElem?_eq_some_iff.mp he).1
        rw [List.getElem?_append_left (by omega)] at hx
        exact h5 j e x he hx
  · have hm : k ∈ xs.map (·.1) := List.mem_of_getElem? hi
    have hpx : putX xs k key val = xs.map (fun x => if x.1 = k then (x.1, x.2.1, val) else x) := by unfold putX; rw [if_pos hm]
    refine wpAny_bind (wpAny_rule (wpAny_bind (wpAny_updateDict (s := { s with toks := s.toks + k.draws }) h1 h3 (wpAny_point (wpAny_pure ⟨.none, rfl, wpAny_pure ?_⟩)))))
    refine fin _ _ _ _ (Heap.get?_update_self _ h1 (Obj.isFreed_of_dict (Obj.data_mapDict h3 _))) (h2.mapDict _) (Obj.data_mapDict h3 _) ?_ (fun j e x he hx => ?_) (Heap.SameBut.update ..)
    · rw [Array.size_modify, h4, hpx, List.length_map]
    · rw [hpx, List.getElem?_map] at hx
      rw [Array.getElem?_modify] at he
      cases hxj : xs[j]? with
      | none => rw [hxj] at hx; cases hx
      | some y =>
        rw [hxj] at hx
        have hx' : (if y.1 = k then (y.1, y.2.1, val) else y) = x := Option.some.inj hx
        have hlt : j < es.size := by rw [h4]; exact (List.getElem?_eq_some_iff.mp hxj).1
        have hej : es[j]? = some es[j] := Array.getElem?_eq_getElem hlt
        obtain ⟨a1, a2, a3⟩ := h5 j _ y hej hxj
        by_cases hij : i = j
        · subst hij
          rw [if_pos rfl, hej] at he
          have hyk : y.1 = k := by rw [List.getElem?_map, hxj] at hi; exact Option.some.inj hi
          rw [if_pos hyk] at hx'
          cases he
          subst hx'
          exact ⟨a1, a2, r3⟩
        · rw [if_neg hij, hej] at he
          have hyk : y.1 ≠ k := fun z => hij ((List.getElem?_inj (List.getElem?_eq_some_iff.mp hi).1 m.nd).mp (hi.trans (by rw [List.getElem?_map, hxj, ← z]; rfl)))
          rw [if_neg hyk] at hx'
          cases he
          subst hx'
          exact ⟨a1, a2, a3⟩
end
end Y

namespace Y
open PySem PySem.Spec PyProof.Rows L2
section
variable {Z : Wd} {X X' : Cx} {N : List Str} {sc scope : Scope} {M M' : Msk} {G G' : List Str} {σ σ0 : L2.St} {H : Hp} {p ap : Pos} {Q : VK} {D : Ends}
/-- o[lo:hi] = ys -/
theorem wg_cut {o lo hi : Expr} {p2 : Pos} {v : V} {R : L2.St → Hp → Prop} (q : WE X o σ H fun x H1 => WE X lo σ H1 fun l H2 => WE X hi σ H2 fun u H3 => ∃ (a b : Addr) (xs ys : List V) (i j : Int), x = .ref a ∧ l = .int i ∧ u = .int j ∧ v = .ref b ∧ H3 a = some (.lst xs) ∧ H3 b = some (.lst ys) ∧ a ≠ b ∧ 0 ≤ i ∧ i ≤ j ∧ j ≤ xs.length ∧ xs.length + ys.length ≤ 16777216 ∧
      R σ (upd H3 a (.lst (xs.take i.toNat ++ ys ++ xs.drop j.toNat))))
    (ha : ∀ w, assign (.Subscript o (.Slice (some lo) (some hi) none p2) p) X.env w = (do
      let ov ← holding [w] (eval o X.env)
      let iv ← holding [w, ov] (eval (.Slice (some lo) (some hi) none p2) X.env)
      standAt p
      holding [w, ov, iv] (setItem ov iv w)
      release [iv, w, ov] []) := by intro _; with_unfolding_all rfl) : WG X (.Subscript o (.Slice (some lo) (some hi) none p2) p) v σ H R := by
  intro pins s u I r
  rw [ha]
  refine wpAny_bind (wpAny_holding (thn (q pins s I) fun ov s1 ⟨x, H1, I1, r1, q1⟩ => ?_))
  refine wpAny_bind (wpAny_holding (wpAny_Slice ?_))
  rw [evalPart_some]
  refine thn (q1 pins s1 I1) fun vl s2 ⟨l, H2, I2, r2, q2⟩ => ?_
  rw [evalPart_some]
  refine thn (q2 pins s2 I2) fun vu s3 ⟨u', H3, I3, r3, a, b, xs, ys, i, j, ex, el, eu, ev, ha, hb, hab, h0, hij, hj, hz, q3⟩ => ?_
  subst ex el eu ev
  cases r1
  cases r
  rw [evalPart_none]
  refine wpAny_pure ?_
  have I4 : Inv X pins σ H3 { s3 with heap := s3.heap.push { cls := .type "slice", data := .fields #[vl, vu, .none] } } := I3.kept (t' := s3.toks) fun b ob q => Heap.get?_push_of_some _ q
  refine wpAny_bind (wpAny_standAt (wpAny_bind (wpAny_holding (set_slice I4 ha hb hab (Heap.IsSliceOf.new ..) r2 r3 h0 hij hj (le_line hz) fun s5 I5 => ?_))))
  exact wpAny_release ⟨σ, _, I5, q3⟩
/-- list(range(n)) -/
theorem we_listRg {a : Expr} {pf pr pc : Pos} (B : Bd Z X N sc M G) (hg : ("list" : Str) ∈ G) (hg2 : ("range" : Str) ∈ G) (hm : Z.mg "list" = none) (hm2 : Z.mg "range" = none) (q : WE X a σ H fun x H1 => ∃ n : Nat, x = .int n ∧ n ≤ 16777216 ∧ ∀ l, H1 l = none → Q (.ref l) (upd H1 l (.lst ((List.range n).map fun i : Nat => V.int (i : Int)))))
    (na : starEach [a] X.env = (false, eval a X.env) :: starEach [] X.env := by with_unfolding_all rfl) (nb : starEach [.Call (.Name "range" pr) [a] [] pc] X.env = (false, eval (.Call (.Name "range" pr) [a] [] pc) X.env) :: starEach [] X.env := by with_unfolding_all rfl) :
    WE X (.Call (.Name "list" pf) [.Call (.Name "range" pr) [a] [] pc] [] p) σ H Q := by
  obtain ⟨e1, _⟩ := B.gl _ hg
  obtain ⟨e2, _⟩ := B.gl _ hg2
  refine wE (pe_listRg B.calm e1 (by rw [B.mg]; exact hm) (prg_1 e2 (by rw [B.mg]; exact hm2) (pE X a) na) nb) ?_
  refine q.imp fun x H1 ⟨n, ex, hn, q1⟩ => ⟨(n : Int), ex, ⟨by omega, by omega, by omega, by omega, by omega⟩, fun l hl => ?_⟩
  have e : rgV 0 (n : Int) = (List.range n).map fun i : Nat => V.int (i : Int) := by
    unfold rgV
    rw [show ((n : Int) - 0).toNat = n by omega]
    exact List.map_congr_left fun i _ => by rw [Int.zero_add]
  rw [e]
  exact q1 l hl
/-! ### dict comprehensions -/
def DI (X : Cx) (scope : Scope) (J : It) (tg kx vx : Expr) (ifs : List Expr) (vs : List Nat) (σ : L2.St) (H1 : Hp) (Q : VK) : Prop := ∀ D, H1 D = none → ∃ W : Nat → Nat → Hp → Prop, (∃ m, W 0 m (upd H1 D (.dK []))) ∧ ∀ i m H, W i m H →
  (J.stop i H ∧ Q (.ref D) H) ∨ (J.go i H ∧ ∃ Nx : Hp → Prop, (∀ H', Nx H' → ∃ m', m' < m ∧ W (i + 1) m' H') ∧ ∀ x H', J.yld i H x H' → ∀ X', Blk X scope X' → WG X' tg x (wipe σ vs) H' fun σ2 H2 => wipe σ2 vs = wipe σ vs ∧ ∀ X', Blk X scope X' → WTs X' ifs σ2 H2 fun b H3 =>
    if b = true then ∀ X', Blk X scope X' → WE X' kx σ2 H3 fun y H4 => ∀ X', Blk X scope X' → WE X' vx σ2 H4 fun z H5 => ∃ kvs k, y = kV k ∧ H5 D = some (.dK kvs) ∧ kvs.length < sizeLine ∧ Nx (upd H5 D (.dK (putK kvs k z))) else Nx H3)
theorem we_dc {own : List (Str × Nat)} {tg iter kx vx : Expr} {ifs : List Expr} (B : Bd Z X N sc M G) (ok : blkC N sc scope own = true) (q : WI X tg iter σ H fun J H1 => DI X scope J tg kx vx ifs (own.map (·.2)) σ H1 Q) (hs : ∀ x, foldedSetIterable iter X.env x = pure x := by intro _; with_unfolding_all rfl) :
    WE X (.DictComp kx vx [⟨tg, iter, ifs, 0⟩] scope p) σ H Q :=
  wE (pe_dc (own := own) B.calm B.nd (pI X tg iter) (blk_ok B ok) (g := fun x σ H Q => ∀ X', Blk X scope X' → WG X' tg x σ H Q) (tt := fun σ H Q => ∀ X', Blk X scope X' → WTs X' ifs σ H Q) (tk := fun σ H Q => ∀ X', Blk X scope X' → WE X' kx σ H Q) (tv := fun σ H Q => ∀ X', Blk X scope X' → WE X' vx σ H Q)
    (fun s H C cl fp => ⟨fun pins s' σ H v u Q I r h => (pG _ tg).run pins s' σ H v u Q I r (h _ ⟨s, _, C, cl, fp, rfl⟩)⟩)
    (fun s H C cl fp => ⟨fun pins s' σ H Q I h => (pTs _ ifs).run pins s' σ H Q I (h _ ⟨s, _, C, cl, fp, rfl⟩)⟩)
    (fun s H C cl fp => ⟨fun pins s' σ H Q I h => (pE _ kx).run pins s' σ H Q I (h _ ⟨s, _, C, cl, fp, rfl⟩)⟩)
    (fun s H C cl fp => ⟨fun pins s' σ H Q I h => (pE _ vx).run pins s' σ H Q I (h _ ⟨s, _, C, cl, fp, rfl⟩)⟩) hs) q
def numKV (k : Nat) : List V → List (Key × V)
  | [] => []
  | x :: r => (.inl (k : Int), x) :: numKV (k + 1) r
theorem numKV_snoc : ∀ (xs : List V) (k : Nat) (x : V), numKV k (xs ++ [x]) = numKV k xs ++ [(.inl ((k + xs.length : Nat) : Int), x)]
  | [], k, x => rfl
  | y :: r, k, x => by
    rw [List.cons_append, numKV, numKV, numKV_snoc r (k + 1) x, List.length_cons, List.cons_append]
    rw [show k + 1 + r.length = k + (r.length + 1) by omega]
theorem numKV_len : ∀ (xs : List V) (k : Nat), (numKV k xs).length = xs.length
  | [], _ => rfl
  | _ :: r, k => by rw [numKV, List.length_cons, List.length_cons, numKV_len r]
theorem numKV_val : ∀ (xs : List V) (k : Nat) (j : Nat), j < k ∨ k + xs.length ≤ j → valV (numKV k xs) (.inl (j : Int)) = none
  | [], _, _, _ => rfl
  | x :: r, k, j, h => by
    rw [List.length_cons] at h
    rw [numKV, valV_neg (by intro e; have := Sum.inl.inj e; omega)]
    exact numKV_val r (k + 1) j (by omega)
/-- {y: z for y, z in enumerate(xs)} -/
theorem di_num {a : Addr} {xs : List V} {y z : Str} {py pz pt p1 p2 : Pos} {kk : Nat} {vs : List Nat} (B : Bd Z X N sc M G) (hm : (okM (relS scope sc) N M' && okG (relS scope sc) G' && okS scope M') = true) (hq : SqL X.K H a xs) (hz : xs.length < 16777216) (w0 : wipe σ vs = σ0)
    (hu : ∀ v w, ∃ σ1 σ2, Up2 M' σ0 y v σ1 ∧ Up2 M' σ1 z w σ2 ∧ wipe σ2 vs = σ0 ∧ At2 M' σ2 y v ∧ At2 M' σ2 z w)
    (fin : ∀ D H', H D = none → (∀ q o, H q = some o → H' q = some o) → (∀ q, H' q = none → H q = none) → H' D = some (.dK (numKV 0 xs)) → Q (.ref D) H') : DI X scope (Ite X.K a) (.Tuple [.Name y py, .Name z pz] kk pt) (.Name y p1) (.Name z p2) [] vs σ H Q := by
  intro D hD
  refine ⟨fun i m H' => m = xs.length - i ∧ i ≤ xs.length ∧ (∀ q o, H q = some o → H' q = some o) ∧ (∀ q, H' q = none → H q = none) ∧ H' D = some (.dK (numKV 0 (xs.take i))), ⟨xs.length, rfl, Nat.zero_le _, fun q o e => by rw [upd_ne (ne_none e hD)]; exact e, fun q e => ?_, upd_same⟩, ?_⟩
  · by_cases h : q = D
    · subst h; exact hD
    · rw [upd_ne h] at e; exact e
  rintro i m H1 ⟨rfl, hi, k1, k2, hd⟩
  have q1 : SqL X.K H1 a xs := Same.seq k1 hq
  by_cases hlt : i < xs.length
  · refine .inr ⟨⟨xs, xs[i], q1, by simp [hlt]⟩, _, fun H' h => ⟨xs.length - (i + 1), by omega, rfl, hlt, h⟩, fun x H' y' X' hb => ?_⟩
    obtain ⟨T, x', rfl, hT, rfl, y'⟩ := y'
    have hx := y' xs q1
    rw [List.getElem?_eq_getElem hlt] at hx
    cases hx
    obtain ⟨σ1, σ2, u1, u2, hw, a1, a2⟩ := hu (.int (i : Nat)) xs[i]
    have B' := B.blk hb hm
    rw [w0]
    have hTD : D ≠ T := fun e => by subst e; rw [hd] at hT; cases hT
    refine wg_tup B' (.inl (.inl upd_same)) (wgs_cons (wg_name B' u1 (wgs_cons (wg_name B' u2 (wgs_nil ⟨hw, fun X' hb => wts_nil ?_⟩)))))
    show ∀ X', Blk X scope X' → _
    refine fun X' hb => we_var (B.blk hb hm) a1 fun X' hb => we_var (B.blk hb hm) a2 ⟨_, .inl (i : Int), rfl, by rw [upd_ne hTD]; exact hd, lt_line (by rw [numKV_len, List.length_take]; omega), ?_, ?_, ?_⟩
    · exact fun q o e => by
        have e1 := k1 q o e
        rw [upd_ne (ne_none e hD), upd_ne (ne_none e1 hT)]; exact e1
    · intro q e
      by_cases h : q = D
      · subst h; exact hD
      · rw [upd_ne h] at e
        by_cases h2 : q = T
        · subst h2; rw [upd_same] at e; cases e
        · rw [upd_ne h2] at e; exact k2 q e
    · rw [upd_same, putK_new _ (numKV_val _ 0 i (by rw [List.length_take]; omega)), snocs (List.getElem?_eq_getElem hlt), numKV_snoc, List.length_take, Nat.zero_add, Nat.min_eq_left hi]
  · have e : i = xs.length := by omega
    subst e
    rw [List.take_length] at hd
    exact .inl ⟨⟨xs, q1, Nat.le_refl _⟩, fin D H1 hD k1 k2 hd⟩
end
/-- a table whose keys are the numbers 0, 1, .. said as a mixed one -/
def numX (k : Nat) : List V → List (NestedKey × V × V)
  | [] => []
  | x :: r => (.num (k : Int), .int (k : Int), x) :: numX (k + 1) r
theorem num_ents {P : Program} {w : World} : ∀ {es : List DictEntry} {k : Nat} {xs : List V} {vs : List (Key × Value)}, Pairs (mixKind P w) es vs → KV (numKV k xs) vs → (∀ e ∈ es, ∃ q, (mixKind P w).is q e.key = true ∧ e.hash = (mixKind P w).hash q) → es.length = (numX k xs).length ∧ ∀ (j : Nat) (e : DictEntry) (x : NestedKey × V × V), es[j]? = some e → (numX k xs)[j]? = some x → e.hash = x.1.hash w ∧ RelV x.2.1 e.key ∧ RelV x.2.2 e.val
  | _, k, [], _, hp, hk, _ => by
    cases hk
    cases hp
    exact ⟨rfl, fun j e x h => by simp at h⟩
  | _, k, x :: r, _, hp, hk, ho => by
    cases hk with
    | cons h t =>
      obtain ⟨h1, h2⟩ := h
      cases hp with
      | cons g1 g2 g3 =>
        obtain ⟨n, ih⟩ := num_ents g3 t fun e he => ho e (by simp [he])
        refine ⟨by rw [numX, List.length_cons, List.length_cons, n], fun j e y hj hy => ?_⟩
        cases j with
        | succ j => exact ih j e y (by simpa using hj) (by simpa [numX] using hy)
        | zero =>
          simp [numX] at hj hy
          subst hj hy
          rw [← h1] at g1
          obtain ⟨i, tk, e1, e2⟩ | ⟨z, tk, e1, e2⟩ := keyIs_shape (k := Sum.inl (k : Int)) g1
          · cases e1
            obtain ⟨q, o1, o2⟩ := ho _ List.mem_cons_self
            rw [e2] at o1
            obtain ⟨i', tk', e3, e4⟩ | ⟨z, tk', e3, e4⟩ := keyIs_shape (k := q) o1
            · cases e4
              subst e3
              exact ⟨o2, ⟨tk, e2⟩, by rw [g2]; exact h2⟩
            · cases e4
          · cases e1
theorem mx_of {Z : Wd} {X : Cx} {N : List Str} {sc : Scope} {M : Msk} {G : List Str} {σ : L2.St} {H : Hp} {st : List Stmt} {D : Ends} {d : Addr} {xs : List V} (B : Bd Z X N sc M G) (hd : H d = some (.dK (numKV 0 xs))) (q : WSs X st D σ (upd H d (MxD Z.w d (numX 0 xs)))) : WSs X st D σ H := by
  intro pins s I
  have hok := I.hok d _ hd
  obtain ⟨_, _, vs, hkv, o, es, ep, h1, h2, h3, h4, h5, _⟩ := hok
  have hz := num_ents h5 hkv fun e he => h4 e (Array.mem_toList_iff.mp he)
  rw [B.w] at hz
  have I2 : Inv X pins σ (upd H d (MxD Z.w d (numX 0 xs))) { s with heap := s.heap, toks := s.toks } := d_write I (by rw [hd]; exact True.intro) ⟨rfl, fun _ _ => rfl⟩ ⟨o, h1⟩ (mxd_ok ⟨o, es, ep, h1, h2, h3, by rw [← Array.length_toList]; exact hz.1, fun j e x he hx => hz.2 j e x (by rw [Array.getElem?_toList]; exact he) hx⟩)
  exact q pins s I2
end Y

namespace Y
open PySem PySem.Spec PyProof.Rows L2
theorem sw_scope {env env' : Env} {ts : List Expr} {v : Expr} (h : env.scope = env'.scope) : swappedStores ts v env = swappedStores ts v env' := by
  have h1 : env.blockKind = env'.blockKind := by unfold Env.blockKind; rw [h]
  have h2 : env.kindOf = env'.kindOf := by funext x; unfold Env.kindOf; rw [h]
  unfold swappedStores
  rw [h1, h2]
/-- a, b = x, y; the scope is known -/
theorem ws_par2 {Z : Wd} {X : Cx} {N : List Str} {sc : Scope} {M : Msk} {G : List Str} {σ : L2.St} {H : Hp} {D : Ends} {x y : Str} {a b : Expr} {p px py pt pt2 : Pos} {kt k2 : Nat} (B : Bd Z X N sc M G) (i j : Nat)
    (q : WA X [a, b] σ H fun vs H1 => ∃ v w σ1 σ2, vs = [v, w] ∧ x ≠ y ∧ Up2 M σ x v σ1 ∧ Up2 M σ1 y w σ2 ∧ D.nx σ2 H1)
    (hM : i ≠ j ∧ M[i]? = some (some (x, true)) ∧ M[j]? = some (some (y, true)) := by exact ⟨by decide, rfl, rfl⟩) (hx : sc.names.lookup x = some .local := by with_unfolding_all rfl) (hy : sc.names.lookup y = some .local := by with_unfolding_all rfl)
    (hw : ∀ env : Env, swappedStores [.Tuple [.Name x px, .Name y py] kt pt] (.Tuple [a, b] k2 pt2) { env with scope := sc } = pure (some [x, y]) := by intro _; with_unfolding_all rfl)
    (hs : swapsWithSole [.Tuple [.Name x px, .Name y py] kt pt] (.Tuple [a, b] k2 pt2) p.line X.env = pure false := by with_unfolding_all rfl) : WS X (.Assign [.Tuple [.Name x px, .Name y py] kt pt] (.Tuple [a, b] k2 pt2) p) D σ H :=
  ws_par B (by rw [B.hsc]; exact hx) (by rw [B.hsc]; exact hy) q (by rw [sw_scope (env' := { X.env with scope := sc }) B.hsc]; exact hw _) hs ⟨i, j, hM⟩
end Y
namespace Y
open PySem PySem.Spec PyProof.Rows L2
theorem we_revL {X : Cx} {σ : L2.St} {H : Hp} {Q : VK} {e : Expr} {k : Nat} {p1 p2 p3 p : Pos} (q : WE X e σ H fun x H1 => ∃ a xs, x = .ref a ∧ SqL X.K H1 a xs ∧ ∀ z, H1 z = none → Q (.ref z) (upd H1 z (.lst xs.reverse))) : WE X (.Subscript e (.Slice none none (some (.UnaryOp .USub (.Constant (.int 1) k p1) p2)) p3) p) σ H Q := wE (pe_revL (pE X e)) q
end Y

namespace Y
open PySem PySem.Spec PyProof.Rows L2 PySem.W
/-! ### the ends -/
/-- the call of the law's def behind the top, from any abstract heap that knows the script alone -/
theorem endCore {P : Program} {w : World} {K : PySem.W.Frag} {mg mb : Str → Option Value} {k : Nat} {fa a : Addr} {fd : FuncData} {x : Str} {sp : Sp} {s : Shared} {vs : List Value} {H : Hp}
    (kin : K.In s.heap) (nm : s.heap.Ns mainGlobals mg) (nb : s.heap.Ns builtinsNs mb) (bb : ∀ x : Str, x ≠ "__name__" → mb x = bootBuiltins x) (nl : s.heap.NoLimit) (gn : s.gens = #[])
    (ga : s.heap.get? a = some { cls := .type "list", data := .seq vs.toArray }) (room : Room k callerA)
    (F : ∀ base : Heap, K.In base → base.Ns mainGlobals mg → FnG ⟨P, w, K, mg, base⟩ k fa fd [x] sp) (bd : ∀ (s : Shared) (u : Value), BindsTo s fd ⟨[u], []⟩ [(x, u)])
    (only : Only H) (sq : sp [.ref a] H (fun v _ => v = .bl true) noX) (ok : HOk P w H s.heap) (uniq : ∀ b, H b ≠ none → b = a) (hid : H a ≠ none → K.lookup a = none) :
    codeAny (model P w) callerA (.call (.ref fa) ⟨[.ref a], []⟩) (fun r s' => r = .ok (.ret (.bool true)) ∧ OldK s.heap s'.heap ∧ s'.os = s.os ∧ AllBare s'.gens) s := by
  have hidden : ∀ {b : Addr} {o : Obj}, s.heap.get? b = some o → H b = none → (hidT s.heap H).get? b = some o := fun e n => hidT_get e n
  have kb : K.In (hidT s.heap H) := by
    intro b o e
    refine hidden (kin b o e) ?_
    cases q : H b with
    | none => rfl
    | some u =>
      have hb : b = a := uniq b (by rw [q]; exact nofun)
      subst hb
      have := hid (by rw [q]; exact nofun)
      rw [this] at e; cases e
  have ns : ∀ {b : Addr} {m : Str → Option Value}, s.heap.Ns b m → (hidT s.heap H).Ns b m := by
    rintro b m ⟨o, es, ep, e, d, r⟩
    refine ⟨o, es, ep, hidden e ?_, d, r⟩
    cases q : H b with
    | none => rfl
    | some u =>
      have hb : b = a := uniq b (by rw [q]; exact nofun)
      subst hb
      rw [ga] at e
      cases e
      have d' : Data.seq vs.toArray _ = Data.dict es ep := d
      cases d'
  have mod : Mod K mg (hidT s.heap H) := ⟨kb, ns nm, ⟨mb, ns nb, bb⟩, let ⟨mc, c1, c2⟩ := nl; ⟨mc, ns c1, c2⟩⟩
  have env : Env0 P w K mg (hidT s.heap H) callerA [] s H := ⟨rfl, mod, fun b o e => of_hidT e, Nat.le_of_eq (hidT_size _ _), trivial, fun b hb => absurd (show b ∈ ([] : List Addr) from hb) (by simp), ok, .of_eq gn⟩
  have run := (F _ kb (ns nm)).run callerA [] s H ⟨[.ref a], []⟩ [.ref a] [.ref a] _ noX rfl room env (bd s (.ref a)) (.cons rfl .nil) sq
  refine codeAny_mono run fun r s' h => ?_
  cases r with
  | error e =>
    obtain ⟨_, _, _, _, _, _, _, _, _, _, _, _, z⟩ := h
    exact z.elim
  | ok fl =>
    cases fl with
    | next => exact False.elim h
    | brk => exact False.elim h
    | cont => exact False.elim h
    | ret u =>
      obtain ⟨v, H', os, bare, un, ok', r', q⟩ := h
      obtain rfl : v = .bl true := q
      obtain rfl : u = Value.bool true := r'
      refine ⟨rfl, OldK.of_keep fun b o e => ?_, os, bare⟩
      cases q : H b with
      | none => exact un.keep b o e q (by intro z; exact absurd (show b ∈ ([] : List Addr) from z) (by simp)) (by simp)
      | some u =>
        rcases only b with z | ⟨ob, xs, z⟩
        · rw [q] at z; cases z
        · obtain ⟨e1, _⟩ := ok b _ z
          obtain ⟨e2, _⟩ := ok' b _ (un.frzs b ob _ z)
          rw [e] at e1
          cases e1
          exact e2
theorem endY {l : PySem.W.OpenLaw} {n k : Nat} {q : Program} {loose : List Str} {XP : (Str → Option Value) → Heap → Prop} {YP : World → Heap → Prop} {d : DefRec} {K : Params → PySem.W.Frag} {sp : PySem.W.Frag → Sp} {x : Str}
    (hn : l.most = some n) (hn2 : n ≤ 16777216) (hdf : d.params.defaults = []) (hr : Room k callerA) (hY : ∀ (w : World) (h : Heap), YP w h → (K w.params).In h)
    (F : ∀ (w : World) (mg : Str → Option Value) (fa : Addr) (h : Heap), (K w.params).In h → h.Ns mainGlobals mg → mg d.name = some (.ref fa) →
      ∃ fd : FuncData, (∀ (s : Shared) (u : Value), BindsTo s fd ⟨[u], []⟩ [(x, u)]) ∧ ∀ base : Heap, (K w.params).In base → base.Ns mainGlobals mg → FnG ⟨l.prog, w, K w.params, mg, base⟩ k fa fd [x] (sp (K w.params)))
    (hsp : ∀ (K : PySem.W.Frag) (H : Hp) (a : Addr) (ns : List Int), ns.length ≤ n → SqL K H a (ns.map V.int) → sp K [.ref a] H (fun v _ => v = .bl true) noX) :
    PySem.W.WalkO q loose XP YP l.row.toRowW d [] (fun f vs => PySem.call f vs) := by
  refine Att.attach_call hn hdf fun w s₀ s mg mb fa o pm cd doc a vs ns G Y ho hd hcd hmg hobj hints hlen hg => ?_
  have kin := hY w _ Y
  obtain ⟨fd, hb, hF⟩ := F w mg fa _ kin G.T.g hmg
  have rv := vals_ints hints
  have lv := hints.length
  cases hk : (K w.params).lookup a with
  | some ob =>
    have e := kin a ob hk
    rw [hobj] at e
    cases e
    have H0ok : HOk l.prog w (fun _ => none) s.heap := fun b u z => by cases z
    exact endCore kin G.T.g G.T.b G.T.builtins G.T.nolimit hg hobj hr hF hb (H := fun _ => none) (fun _ => .inl rfl) (hsp _ _ a ns hlen (.inr ⟨_, vs.toArray, _, hk, rfl, rfl, rfl, by rw [List.size_toArray, lv]; exact le_line (Nat.le_trans hlen hn2), by simpa using rv⟩)) H0ok (fun b z => absurd rfl z) fun z => absurd rfl z
  | none =>
    have e0 : ∀ b : Addr, (fun b : Addr => if b = a then some (HO.frz { cls := .type "list", data := .seq vs.toArray } (.lst (ns.map V.int))) else none) b ≠ none → b = a := fun b z => by
      by_cases hb : b = a
      · exact hb
      · exact absurd (if_neg hb) z
    have ok : HOk l.prog w (fun b => if b = a then some (.frz { cls := .type "list", data := .seq vs.toArray } (.lst (ns.map V.int))) else none) s.heap := fun b u z => by
      have hb := e0 b (by rw [z]; exact nofun)
      subst hb
      cases (if_pos rfl).symm.trans z
      exact ⟨hobj, by rw [List.length_map]; exact le_line (Nat.le_trans hlen hn2), vs, _, rv, hobj⟩
    refine endCore kin G.T.g G.T.b G.T.builtins G.T.nolimit hg hobj hr hF hb (H := fun b => if b = a then some (.frz { cls := .type "list", data := .seq vs.toArray } (.lst (ns.map V.int))) else none) (fun b => ?_) (hsp _ _ a ns hlen (.inl (.inr ⟨{ cls := .type "list", data := .seq vs.toArray }, if_pos rfl⟩))) ok e0 fun _ => hk
    by_cases hb : b = a
    · exact .inr ⟨_, _, if_pos hb⟩
    · exact .inl (if_neg hb)
/-! ### facts of the top, said once for each def -/
section
variable {Z : Wd} {k : Nat} {x qual : Str} {st : Stmt} {f C : Addr} {fd : FuncData} {ps : List Str} {sp : Sp}
theorem Fn.of {h : Heap} (X : Z.K.In h) (G : h.Ns mainGlobals Z.mg) (a : PySem.W.nsIn Z.K mainGlobals x = some (some (.ref f))) (F : Fun Z.K x qual st f fd) (b : Binds Z.K fd ps []) (g : FnG Z k f fd ps sp) : Fn Z k x ps sp := ⟨⟨f, fd, PySem.W.mg_of X G a, F.kp, b, g⟩⟩
theorem FnK.of {h : Heap} {n : Nat} {ks : List Str} (X : Z.K.In h) (G : h.Ns mainGlobals Z.mg) (a : PySem.W.nsIn Z.K mainGlobals x = some (some (.ref f))) (F : Fun Z.K x qual st f fd) (b : KBn Z.K fd ps n ks (fun us ws => us ++ ws) (fun us ws => us ++ ws)) (g : FnG Z k f fd ps sp) : FnK Z k x ps n ks sp := ⟨⟨f, fd, PySem.W.mg_of X G a, F.kp, b, g⟩⟩
theorem Mth.of (c : Cls Z.K C) (m : Meth Z.K C x f) (b : Binds Z.K fd ps []) (g : FnG Z k f fd ps sp) : Mth Z k C x ps sp := ⟨⟨f, fd, m, b, g⟩, c⟩
theorem Mkr.of {h : Heap} {name : Str} (X : Z.K.In h) (G : h.Ns mainGlobals Z.mg) (a : PySem.W.nsIn Z.K mainGlobals name = some (some (.ref C))) (m : Mk Z.K C f) (b : Binds Z.K fd ps []) (g : FnG Z k f fd ps sp) : Mkr Z k C name ps sp := ⟨⟨f, fd, m, b, g⟩, PySem.W.mg_of X G a⟩
theorem Cst.of {h : Heap} {i : Int} {u : Value} (X : Z.K.In h) (G : h.Ns mainGlobals Z.mg) (a : PySem.W.nsIn Z.K mainGlobals x = some (some u)) (r : RelV (.int i) u) : Cst Z x i := ⟨⟨u, PySem.W.mg_of X G a, r⟩⟩
theorem kbn_of {n : Nat} {ks : List Str} {K : PySem.W.Frag} (F : Fun K x qual st f fd)
    (h : ∀ (kV doc pm : Value) (an : Option Addr) (cdv ct : Value) (us ws : List Value), us.length = n → ws.length = ks.length → bindArgs (PySem.W.fnOf x qual (defArgs st) (defBody st) (defScope st) .none kV doc pm an cdv ct) ⟨us, ks.zip ws⟩ = pure (ps.zip (us ++ ws))) :
    KBn K fd ps n ks (fun us ws => us ++ ws) (fun us ws => us ++ ws) := by
  obtain ⟨oc, od, kV, doc, pm, an, cdv, ct, osl, rfl, lk, hcd⟩ := F.ex
  exact ⟨fun s us ws _ h1 h2 => .of_eq (h kV doc pm an cdv ct us ws h1 h2), fun r1 r2 => Vals.append r1 r2⟩
end
end Y

namespace Y
open PySem PySem.Spec PyProof.Rows L2
def top (i : Nat) : Stmt := PySem.Challenge.pw_jointoll_k54_whole_yards_and_worths.main.body.getD i (.Pass ⟨0, 0, 0, 0⟩)
/-! TollError_init -/
abbrev s_TollError_init : Stmt := inClass (top 1) 0
abbrev n_TollError_init : List Str := ["self", "why"]
abbrev m_TollError_init : Msk := [some ("self", true), some ("why", true)]
abbrev z_TollError_init : L2.St := []
abbrev g_TollError_init : List Str := ["ValueError"]
theorem sc_TollError_init : FnScope n_TollError_init ["self", "why"] (defScope s_TollError_init) := ⟨rfl, rfl, rfl, by decide +kernel, rfl, by decide +kernel, by decide +kernel⟩
theorem ok_TollError_init : (okM (defScope s_TollError_init) n_TollError_init m_TollError_init && okG (defScope s_TollError_init) g_TollError_init) = true := by decide +kernel
/-! BadTable_init -/
abbrev s_BadTable_init : Stmt := inClass (top 2) 0
abbrev n_BadTable_init : List Str := ["self", "why", "at"]
abbrev m_BadTable_init : Msk := [some ("self", true), some ("why", true), some ("at", true)]
abbrev z_BadTable_init : L2.St := []
abbrev g_BadTable_init : List Str := ["TollError"]
theorem sc_BadTable_init : FnScope n_BadTable_init ["self", "why", "at"] (defScope s_BadTable_init) := ⟨rfl, rfl, rfl, by decide +kernel, rfl, by decide +kernel, by decide +kernel⟩
theorem ok_BadTable_init : (okM (defScope s_BadTable_init) n_BadTable_init m_BadTable_init && okG (defScope s_BadTable_init) g_BadTable_init) = true := by decide +kernel
/-! NoKind_init -/
abbrev s_NoKind_init : Stmt := inClass (top 3) 0
abbrev n_NoKind_init : List Str := ["self", "kind"]
abbrev m_NoKind_init : Msk := [some ("self", true), some ("kind", true)]
abbrev z_NoKind_init : L2.St := []
abbrev g_NoKind_init : List Str := ["TollError"]
theorem sc_NoKind_init : FnScope n_NoKind_init ["self", "kind"] (defScope s_NoKind_init) := ⟨rfl, rfl, rfl, by decide +kernel, rfl, by decide +kernel, by decide +kernel⟩
theorem ok_NoKind_init : (okM (defScope s_NoKind_init) n_NoKind_init m_NoKind_init && okG (defScope s_NoKind_init) g_NoKind_init) = true := by decide +kernel
/-! BadRow_init -/
abbrev s_BadRow_init : Stmt := inClass (top 4) 0
abbrev n_BadRow_init : List Str := ["self", "at"]
abbrev m_BadRow_init : Msk := [some ("self", true), some ("at", true)]
abbrev z_BadRow_init : L2.St := []
abbrev g_BadRow_init : List Str := ["TollError"]
theorem sc_BadRow_init : FnScope n_BadRow_init ["self", "at"] (defScope s_BadRow_init) := ⟨rfl, rfl, rfl, by decide +kernel, rfl, by decide +kernel, by decide +kernel⟩
theorem ok_BadRow_init : (okM (defScope s_BadRow_init) n_BadRow_init m_BadRow_init && okG (defScope s_BadRow_init) g_BadRow_init) = true := by decide +kernel
/-! BadOrder_init -/
abbrev s_BadOrder_init : Stmt := inClass (top 5) 0
abbrev n_BadOrder_init : List Str := ["self", "at"]
abbrev m_BadOrder_init : Msk := [some ("self", true), some ("at", true)]
abbrev z_BadOrder_init : L2.St := []
abbrev g_BadOrder_init : List Str := ["TollError"]
theorem sc_BadOrder_init : FnScope n_BadOrder_init ["self", "at"] (defScope s_BadOrder_init) := ⟨rfl, rfl, rfl, by decide +kernel, rfl, by decide +kernel, by decide +kernel⟩
theorem ok_BadOrder_init : (okM (defScope s_BadOrder_init) n_BadOrder_init m_BadOrder_init && okG (defScope s_BadOrder_init) g_BadOrder_init) = true := by decide +kernel
/-! BadStep_init -/
abbrev s_BadStep_init : Stmt := inClass (top 7) 0
abbrev n_BadStep_init : List Str := ["self", "at"]
abbrev m_BadStep_init : Msk := [some ("self", true), some ("at", true)]
abbrev z_BadStep_init : L2.St := []
abbrev g_BadStep_init : List Str := ["TollError"]
theorem sc_BadStep_init : FnScope n_BadStep_init ["self", "at"] (defScope s_BadStep_init) := ⟨rfl, rfl, rfl, by decide +kernel, rfl, by decide +kernel, by decide +kernel⟩
theorem ok_BadStep_init : (okM (defScope s_BadStep_init) n_BadStep_init m_BadStep_init && okG (defScope s_BadStep_init) g_BadStep_init) = true := by decide +kernel
/-! is_integer -/
abbrev s_is_integer : Stmt := top 11
abbrev n_is_integer : List Str := ["value"]
abbrev m_is_integer : Msk := [some ("value", true)]
abbrev z_is_integer : L2.St := []
abbrev g_is_integer : List Str := ["isinstance", "int", "bool"]
theorem sc_is_integer : FnScope n_is_integer ["value"] (defScope s_is_integer) := ⟨rfl, rfl, rfl, by decide +kernel, rfl, by decide +kernel, by decide +kernel⟩
theorem ok_is_integer : (okM (defScope s_is_integer) n_is_integer m_is_integer && okG (defScope s_is_integer) g_is_integer) = true := by decide +kernel
/-! is_between -/
abbrev s_is_between : Stmt := top 12
abbrev n_is_between : List Str := ["value", "low", "high"]
abbrev m_is_between : Msk := [some ("value", true), some ("low", true), some ("high", true)]
abbrev z_is_between : L2.St := []
abbrev g_is_between : List Str := ["is_integer"]
theorem sc_is_between : FnScope n_is_between ["value", "low", "high"] (defScope s_is_between) := ⟨rfl, rfl, rfl, by decide +kernel, rfl, by decide +kernel, by decide +kernel⟩
theorem ok_is_between : (okM (defScope s_is_between) n_is_between m_is_between && okG (defScope s_is_between) g_is_between) = true := by decide +kernel
/-! check_grid -/
abbrev s_check_grid : Stmt := top 13
abbrev n_check_grid : List Str := ["grid", "why", "cell_why", "size", "low", "high", "x", "row", "y", "value"]
abbrev m_check_grid : Msk := [some ("grid", true), some ("why", true), some ("cell_why", true), some ("size", true), some ("low", true), some ("high", true), some ("x", true), some ("row", true), some ("y", true), some ("value", true)]
abbrev z_check_grid : L2.St := [none, none, none, none]
abbrev g_check_grid : List Str := ["isinstance", "list", "len", "BadTable", "enumerate", "is_between"]
theorem sc_check_grid : FnScope n_check_grid ["grid", "why", "cell_why", "size", "low", "high"] (defScope s_check_grid) := ⟨rfl, rfl, rfl, by decide +kernel, rfl, by decide +kernel, by decide +kernel⟩
theorem ok_check_grid : (okM (defScope s_check_grid) n_check_grid m_check_grid && okG (defScope s_check_grid) g_check_grid) = true := by decide +kernel
/-! check_joins -/
abbrev s_check_joins : Stmt := top 14
abbrev n_check_joins : List Str := ["joins"]
abbrev m_check_joins : Msk := [some ("joins", true)]
abbrev z_check_joins : L2.St := []
abbrev g_check_joins : List Str := ["isinstance", "list", "len", "MOST_KINDS", "BadTable", "check_grid"]
theorem sc_check_joins : FnScope n_check_joins ["joins"] (defScope s_check_joins) := ⟨rfl, rfl, rfl, by decide +kernel, rfl, by decide +kernel, by decide +kernel⟩
theorem ok_check_joins : (okM (defScope s_check_joins) n_check_joins m_check_joins && okG (defScope s_check_joins) g_check_joins) = true := by decide +kernel
/-! Table_init -/
abbrev s_Table_init : Stmt := inClass (top 15) 0
abbrev n_Table_init : List Str := ["self", "joins", "tolls", "row"]
abbrev m_Table_init : Msk := [some ("self", true), some ("joins", true), some ("tolls", true), none]
abbrev z_Table_init : L2.St := [none]
abbrev g_Table_init : List Str := ["check_joins", "check_grid", "len", "TOLL_BOUND", "tuple"]
theorem sc_Table_init : FnScope n_Table_init ["self", "joins", "tolls"] (defScope s_Table_init) := ⟨rfl, rfl, rfl, by decide +kernel, rfl, by decide +kernel, by decide +kernel⟩
theorem ok_Table_init : (okM (defScope s_Table_init) n_Table_init m_Table_init && okG (defScope s_Table_init) g_Table_init) = true := by decide +kernel
abbrev oc0_Table_init : List (Str × Nat) := [("row", 3)]
abbrev mc0_Table_init : Msk := [none, none, none, some ("row", true)]
abbrev gc0_Table_init : List Str := ["tuple"]
abbrev oc1_Table_init : List (Str × Nat) := [("row", 3)]
abbrev mc1_Table_init : Msk := [none, none, none, some ("row", true)]
abbrev gc1_Table_init : List Str := ["tuple"]
/-! Table_count -/
abbrev s_Table_count : Stmt := inClass (top 15) 1
abbrev n_Table_count : List Str := ["self"]
abbrev m_Table_count : Msk := [some ("self", true)]
abbrev z_Table_count : L2.St := []
abbrev g_Table_count : List Str := ["len"]
theorem sc_Table_count : FnScope n_Table_count ["self"] (defScope s_Table_count) := ⟨rfl, rfl, rfl, by decide +kernel, rfl, by decide +kernel, by decide +kernel⟩
theorem ok_Table_count : (okM (defScope s_Table_count) n_Table_count m_Table_count && okG (defScope s_Table_count) g_Table_count) = true := by decide +kernel
/-! Table_joins -/
abbrev s_Table_joins : Stmt := inClass (top 15) 2
abbrev n_Table_joins : List Str := ["self", "row"]
abbrev m_Table_joins : Msk := [some ("self", true), none]
abbrev z_Table_joins : L2.St := [none]
abbrev g_Table_joins : List Str := []
theorem sc_Table_joins : FnScope n_Table_joins ["self"] (defScope s_Table_joins) := ⟨rfl, rfl, rfl, by decide +kernel, rfl, by decide +kernel, by decide +kernel⟩
theorem ok_Table_joins : (okM (defScope s_Table_joins) n_Table_joins m_Table_joins && okG (defScope s_Table_joins) g_Table_joins) = true := by decide +kernel
abbrev oc0_Table_joins : List (Str × Nat) := [("row", 1)]
abbrev mc0_Table_joins : Msk := [none, some ("row", true)]
abbrev gc0_Table_joins : List Str := ["list"]
/-! Table_tolls -/
abbrev s_Table_tolls : Stmt := inClass (top 15) 3
abbrev n_Table_tolls : List Str := ["self", "row"]
abbrev m_Table_tolls : Msk := [some ("self", true), none]
abbrev z_Table_tolls : L2.St := [none]
abbrev g_Table_tolls : List Str := []
theorem sc_Table_tolls : FnScope n_Table_tolls ["self"] (defScope s_Table_tolls) := ⟨rfl, rfl, rfl, by decide +kernel, rfl, by decide +kernel, by decide +kernel⟩
theorem ok_Table_tolls : (okM (defScope s_Table_tolls) n_Table_tolls m_Table_tolls && okG (defScope s_Table_tolls) g_Table_tolls) = true := by decide +kernel
abbrev oc0_Table_tolls : List (Str × Nat) := [("row", 1)]
abbrev mc0_Table_tolls : Msk := [none, some ("row", true)]
abbrev gc0_Table_tolls : List Str := ["list"]
/-! Table_check_kind -/
abbrev s_Table_check_kind : Stmt := inClass (top 15) 4
abbrev n_Table_check_kind : List Str := ["self", "kind"]
abbrev m_Table_check_kind : Msk := [some ("self", true), some ("kind", true)]
abbrev z_Table_check_kind : L2.St := []
abbrev g_Table_check_kind : List Str := ["is_between", "NoKind"]
theorem sc_Table_check_kind : FnScope n_Table_check_kind ["self", "kind"] (defScope s_Table_check_kind) := ⟨rfl, rfl, rfl, by decide +kernel, rfl, by decide +kernel, by decide +kernel⟩
theorem ok_Table_check_kind : (okM (defScope s_Table_check_kind) n_Table_check_kind m_Table_check_kind && okG (defScope s_Table_check_kind) g_Table_check_kind) = true := by decide +kernel
/-! Table_join -/
abbrev s_Table_join : Stmt := inClass (top 15) 5
abbrev n_Table_join : List Str := ["self", "left", "right"]
abbrev m_Table_join : Msk := [some ("self", true), some ("left", true), some ("right", true)]
abbrev z_Table_join : L2.St := []
abbrev g_Table_join : List Str := []
theorem sc_Table_join : FnScope n_Table_join ["self", "left", "right"] (defScope s_Table_join) := ⟨rfl, rfl, rfl, by decide +kernel, rfl, by decide +kernel, by decide +kernel⟩
theorem ok_Table_join : (okM (defScope s_Table_join) n_Table_join m_Table_join && okG (defScope s_Table_join) g_Table_join) = true := by decide +kernel
/-! Table_toll -/
abbrev s_Table_toll : Stmt := inClass (top 15) 6
abbrev n_Table_toll : List Str := ["self", "left", "right"]
abbrev m_Table_toll : Msk := [some ("self", true), some ("left", true), some ("right", true)]
abbrev z_Table_toll : L2.St := []
abbrev g_Table_toll : List Str := []
theorem sc_Table_toll : FnScope n_Table_toll ["self", "left", "right"] (defScope s_Table_toll) := ⟨rfl, rfl, rfl, by decide +kernel, rfl, by decide +kernel, by decide +kernel⟩
theorem ok_Table_toll : (okM (defScope s_Table_toll) n_Table_toll m_Table_toll && okG (defScope s_Table_toll) g_Table_toll) = true := by decide +kernel
/-! Table_eq -/
abbrev s_Table_eq : Stmt := inClass (top 15) 7
abbrev n_Table_eq : List Str := ["self", "other"]
abbrev m_Table_eq : Msk := [some ("self", true), some ("other", true)]
abbrev z_Table_eq : L2.St := []
abbrev g_Table_eq : List Str := ["isinstance", "Table"]
theorem sc_Table_eq : FnScope n_Table_eq ["self", "other"] (defScope s_Table_eq) := ⟨rfl, rfl, rfl, by decide +kernel, rfl, by decide +kernel, by decide +kernel⟩
theorem ok_Table_eq : (okM (defScope s_Table_eq) n_Table_eq m_Table_eq && okG (defScope s_Table_eq) g_Table_eq) = true := by decide +kernel
/-! Table_repr -/
abbrev s_Table_repr : Stmt := inClass (top 15) 8
abbrev n_Table_repr : List Str := ["self"]
abbrev m_Table_repr : Msk := [some ("self", true)]
abbrev z_Table_repr : L2.St := []
abbrev g_Table_repr : List Str := []
theorem sc_Table_repr : FnScope n_Table_repr ["self"] (defScope s_Table_repr) := ⟨rfl, rfl, rfl, by decide +kernel, rfl, by decide +kernel, by decide +kernel⟩
theorem ok_Table_repr : (okM (defScope s_Table_repr) n_Table_repr m_Table_repr && okG (defScope s_Table_repr) g_Table_repr) = true := by decide +kernel
/-! tolls_of_worths -/
abbrev s_tolls_of_worths : Stmt := top 16
abbrev n_tolls_of_worths : List Str := ["joins", "worths", "at", "worth", "found", "left", "row", "right", "kind"]
abbrev m_tolls_of_worths : Msk := [some ("joins", true), some ("worths", true), some ("at", true), some ("worth", true), some ("found", true), some ("left", true), some ("row", true), none, none]
abbrev z_tolls_of_worths : L2.St := [none, none, none, none, none, none, none]
abbrev g_tolls_of_worths : List Str := ["check_joins", "isinstance", "list", "len", "BadTable", "enumerate", "is_between", "TOLL_BOUND", "zip"]
theorem sc_tolls_of_worths : FnScope n_tolls_of_worths ["joins", "worths"] (defScope s_tolls_of_worths) := ⟨rfl, rfl, rfl, by decide +kernel, rfl, by decide +kernel, by decide +kernel⟩
theorem ok_tolls_of_worths : (okM (defScope s_tolls_of_worths) n_tolls_of_worths m_tolls_of_worths && okG (defScope s_tolls_of_worths) g_tolls_of_worths) = true := by decide +kernel
abbrev oc0_tolls_of_worths : List (Str × Nat) := [("right", 7), ("kind", 8)]
abbrev mc0_tolls_of_worths : Msk := [none, some ("worths", false), none, none, none, some ("left", false), none, some ("right", true), some ("kind", true)]
abbrev gc0_tolls_of_worths : List Str := []
/-! check_row -/
abbrev s_check_row : Stmt := top 19
abbrev n_check_row : List Str := ["table", "row", "at", "kind"]
abbrev m_check_row : Msk := [some ("table", true), some ("row", true), some ("at", true), some ("kind", true)]
abbrev z_check_row : L2.St := [none, none]
abbrev g_check_row : List Str := ["isinstance", "list", "len", "MOST_ITEMS", "BadRow", "enumerate", "is_between"]
theorem sc_check_row : FnScope n_check_row ["table", "row"] (defScope s_check_row) := ⟨rfl, rfl, rfl, by decide +kernel, rfl, by decide +kernel, by decide +kernel⟩
theorem ok_check_row : (okM (defScope s_check_row) n_check_row m_check_row && okG (defScope s_check_row) g_check_row) = true := by decide +kernel
/-! check_order -/
abbrev s_check_order : Stmt := top 20
abbrev n_check_order : List Str := ["order", "size", "step", "at"]
abbrev m_check_order : Msk := [some ("order", true), some ("size", true), some ("step", true), some ("at", true)]
abbrev z_check_order : L2.St := [none, none]
abbrev g_check_order : List Str := ["isinstance", "list", "len", "BadOrder", "enumerate", "is_between"]
theorem sc_check_order : FnScope n_check_order ["order", "size"] (defScope s_check_order) := ⟨rfl, rfl, rfl, by decide +kernel, rfl, by decide +kernel, by decide +kernel⟩
theorem ok_check_order : (okM (defScope s_check_order) n_check_order m_check_order && okG (defScope s_check_order) g_check_order) = true := by decide +kernel
/-! steps -/
abbrev s_steps : Stmt := top 21
abbrev n_steps : List Str := ["table", "row", "order", "found", "at", "last"]
abbrev m_steps : Msk := [some ("table", true), some ("row", true), some ("order", true), some ("found", true), some ("at", true), some ("last", true)]
abbrev z_steps : L2.St := [none, none, none]
abbrev g_steps : List Str := ["check_row", "check_order", "len", "list"]
theorem sc_steps : FnScope n_steps ["table", "row", "order"] (defScope s_steps) := ⟨rfl, rfl, rfl, by decide +kernel, rfl, by decide +kernel, by decide +kernel⟩
theorem ok_steps : (okM (defScope s_steps) n_steps m_steps && okG (defScope s_steps) g_steps) = true := by decide +kernel
/-! result -/
abbrev s_result : Stmt := top 22
abbrev n_result : List Str := ["table", "row", "order", "rows", "total", "here", "at"]
abbrev m_result : Msk := [some ("table", true), some ("row", true), some ("order", true), some ("rows", true), some ("total", true), none, none]
abbrev z_result : L2.St := [none, none, none, none]
abbrev g_result : List Str := ["steps", "sum", "zip"]
theorem sc_result : FnScope n_result ["table", "row", "order"] (defScope s_result) := ⟨rfl, rfl, rfl, by decide +kernel, rfl, by decide +kernel, by decide +kernel⟩
theorem ok_result : (okM (defScope s_result) n_result m_result && okG (defScope s_result) g_result) = true := by decide +kernel
abbrev oc0_result : List (Str × Nat) := [("here", 5), ("at", 6)]
abbrev mc0_result : Msk := [some ("table", false), none, none, none, none, some ("here", true), some ("at", true)]
abbrev gc0_result : List Str := []
/-! leaves_of -/
abbrev s_leaves_of : Stmt := top 23
abbrev n_leaves_of : List Str := ["tree", "waiting", "found", "part"]
abbrev m_leaves_of : Msk := [some ("tree", true), some ("waiting", true), some ("found", true), some ("part", true)]
abbrev z_leaves_of : L2.St := [none, none, none]
abbrev g_leaves_of : List Str := ["len", "MOST_ITEMS", "isinstance", "tuple"]
theorem sc_leaves_of : FnScope n_leaves_of ["tree"] (defScope s_leaves_of) := ⟨rfl, rfl, rfl, by decide +kernel, rfl, by decide +kernel, by decide +kernel⟩
theorem ok_leaves_of : (okM (defScope s_leaves_of) n_leaves_of m_leaves_of && okG (defScope s_leaves_of) g_leaves_of) = true := by decide +kernel
/-! is_tree -/
abbrev s_is_tree : Stmt := top 24
abbrev n_is_tree : List Str := ["value", "leaves", "at", "leaf"]
abbrev m_is_tree : Msk := [some ("value", true), some ("leaves", true), none, none]
abbrev z_is_tree : L2.St := [none, none, none]
abbrev g_is_tree : List Str := ["leaves_of", "len", "MOST_ITEMS", "all", "enumerate"]
theorem sc_is_tree : FnScope n_is_tree ["value"] (defScope s_is_tree) := ⟨rfl, rfl, rfl, by decide +kernel, rfl, by decide +kernel, by decide +kernel⟩
theorem ok_is_tree : (okM (defScope s_is_tree) n_is_tree m_is_tree && okG (defScope s_is_tree) g_is_tree) = true := by decide +kernel
abbrev oc0_is_tree : List (Str × Nat) := [("at", 2), ("leaf", 3)]
abbrev mc0_is_tree : Msk := [none, none, some ("at", true), some ("leaf", true)]
abbrev gc0_is_tree : List Str := ["is_between"]
/-! check_tree -/
abbrev s_check_tree : Stmt := top 25
abbrev n_check_tree : List Str := ["tree"]
abbrev m_check_tree : Msk := [some ("tree", true)]
abbrev z_check_tree : L2.St := []
abbrev g_check_tree : List Str := ["is_tree", "BadTree"]
theorem sc_check_tree : FnScope n_check_tree ["tree"] (defScope s_check_tree) := ⟨rfl, rfl, rfl, by decide +kernel, rfl, by decide +kernel, by decide +kernel⟩
theorem ok_check_tree : (okM (defScope s_check_tree) n_check_tree m_check_tree && okG (defScope s_check_tree) g_check_tree) = true := by decide +kernel
/-! order_from -/
abbrev s_order_from : Stmt := top 26
abbrev n_order_from : List Str := ["tree", "start"]
abbrev m_order_from : Msk := [some ("tree", true), some ("start", true)]
abbrev z_order_from : L2.St := []
abbrev g_order_from : List Str := ["isinstance", "tuple", "order_from"]
theorem sc_order_from : FnScope n_order_from ["tree", "start"] (defScope s_order_from) := ⟨rfl, rfl, rfl, by decide +kernel, rfl, by decide +kernel, by decide +kernel⟩
theorem ok_order_from : (okM (defScope s_order_from) n_order_from m_order_from && okG (defScope s_order_from) g_order_from) = true := by decide +kernel
/-! order_of -/
abbrev s_order_of : Stmt := top 27
abbrev n_order_of : List Str := ["tree"]
abbrev m_order_of : Msk := [some ("tree", true)]
abbrev z_order_of : L2.St := []
abbrev g_order_of : List Str := ["check_tree", "order_from"]
theorem sc_order_of : FnScope n_order_of ["tree"] (defScope s_order_of) := ⟨rfl, rfl, rfl, by decide +kernel, rfl, by decide +kernel, by decide +kernel⟩
theorem ok_order_of : (okM (defScope s_order_of) n_order_of m_order_of && okG (defScope s_order_of) g_order_of) = true := by decide +kernel
/-! Yard_init -/
abbrev s_Yard_init : Stmt := inClass (top 29) 0
abbrev n_Yard_init : List Str := ["self", "table", "row", "at", "kind"]
abbrev m_Yard_init : Msk := [some ("self", true), some ("table", true), some ("row", true), none, none]
abbrev z_Yard_init : L2.St := [none, none]
abbrev g_Yard_init : List Str := ["check_row", "list", "range", "len", "enumerate"]
theorem sc_Yard_init : FnScope n_Yard_init ["self", "table", "row"] (defScope s_Yard_init) := ⟨rfl, rfl, rfl, by decide +kernel, rfl, by decide +kernel, by decide +kernel⟩
theorem ok_Yard_init : (okM (defScope s_Yard_init) n_Yard_init m_Yard_init && okG (defScope s_Yard_init) g_Yard_init) = true := by decide +kernel
abbrev oc0_Yard_init : List (Str × Nat) := [("at", 3), ("kind", 4)]
abbrev mc0_Yard_init : Msk := [none, none, none, some ("at", true), some ("kind", true)]
abbrev gc0_Yard_init : List Str := []
/-! Yard_row -/
abbrev s_Yard_row : Stmt := inClass (top 29) 1
abbrev n_Yard_row : List Str := ["self"]
abbrev m_Yard_row : Msk := [some ("self", true)]
abbrev z_Yard_row : L2.St := []
abbrev g_Yard_row : List Str := ["list"]
theorem sc_Yard_row : FnScope n_Yard_row ["self"] (defScope s_Yard_row) := ⟨rfl, rfl, rfl, by decide +kernel, rfl, by decide +kernel, by decide +kernel⟩
theorem ok_Yard_row : (okM (defScope s_Yard_row) n_Yard_row m_Yard_row && okG (defScope s_Yard_row) g_Yard_row) = true := by decide +kernel
/-! Yard_shapes -/
abbrev s_Yard_shapes : Stmt := inClass (top 29) 2
abbrev n_Yard_shapes : List Str := ["self"]
abbrev m_Yard_shapes : Msk := [some ("self", true)]
abbrev z_Yard_shapes : L2.St := []
abbrev g_Yard_shapes : List Str := ["list"]
theorem sc_Yard_shapes : FnScope n_Yard_shapes ["self"] (defScope s_Yard_shapes) := ⟨rfl, rfl, rfl, by decide +kernel, rfl, by decide +kernel, by decide +kernel⟩
theorem ok_Yard_shapes : (okM (defScope s_Yard_shapes) n_Yard_shapes m_Yard_shapes && okG (defScope s_Yard_shapes) g_Yard_shapes) = true := by decide +kernel
/-! Yard_paid -/
abbrev s_Yard_paid : Stmt := inClass (top 29) 3
abbrev n_Yard_paid : List Str := ["self"]
abbrev m_Yard_paid : Msk := [some ("self", true)]
abbrev z_Yard_paid : L2.St := []
abbrev g_Yard_paid : List Str := []
theorem sc_Yard_paid : FnScope n_Yard_paid ["self"] (defScope s_Yard_paid) := ⟨rfl, rfl, rfl, by decide +kernel, rfl, by decide +kernel, by decide +kernel⟩
theorem ok_Yard_paid : (okM (defScope s_Yard_paid) n_Yard_paid m_Yard_paid && okG (defScope s_Yard_paid) g_Yard_paid) = true := by decide +kernel
/-! Yard_history -/
abbrev s_Yard_history : Stmt := inClass (top 29) 4
abbrev n_Yard_history : List Str := ["self"]
abbrev m_Yard_history : Msk := [some ("self", true)]
abbrev z_Yard_history : L2.St := []
abbrev g_Yard_history : List Str := ["list"]
theorem sc_Yard_history : FnScope n_Yard_history ["self"] (defScope s_Yard_history) := ⟨rfl, rfl, rfl, by decide +kernel, rfl, by decide +kernel, by decide +kernel⟩
theorem ok_Yard_history : (okM (defScope s_Yard_history) n_Yard_history m_Yard_history && okG (defScope s_Yard_history) g_Yard_history) = true := by decide +kernel
/-! Yard_join -/
abbrev s_Yard_join : Stmt := inClass (top 29) 5
abbrev n_Yard_join : List Str := ["self", "at", "left", "right", "form", "toll"]
abbrev m_Yard_join : Msk := [some ("self", true), some ("at", true), some ("left", true), some ("right", true), some ("form", true), some ("toll", true)]
abbrev z_Yard_join : L2.St := [none, none, none, none]
abbrev g_Yard_join : List Str := ["is_between", "len", "BadStep"]
theorem sc_Yard_join : FnScope n_Yard_join ["self", "at"] (defScope s_Yard_join) := ⟨rfl, rfl, rfl, by decide +kernel, rfl, by decide +kernel, by decide +kernel⟩
theorem ok_Yard_join : (okM (defScope s_Yard_join) n_Yard_join m_Yard_join && okG (defScope s_Yard_join) g_Yard_join) = true := by decide +kernel
/-! Yard_part -/
abbrev s_Yard_part : Stmt := inClass (top 29) 6
abbrev n_Yard_part : List Str := ["self", "at", "form", "left", "right", "toll"]
abbrev m_Yard_part : Msk := [some ("self", true), some ("at", true), some ("form", true), some ("left", true), some ("right", true), some ("toll", true)]
abbrev z_Yard_part : L2.St := [none, none, none, none]
abbrev g_Yard_part : List Str := ["is_between", "len", "isinstance", "tuple", "BadStep", "list"]
theorem sc_Yard_part : FnScope n_Yard_part ["self", "at"] (defScope s_Yard_part) := ⟨rfl, rfl, rfl, by decide +kernel, rfl, by decide +kernel, by decide +kernel⟩
theorem ok_Yard_part : (okM (defScope s_Yard_part) n_Yard_part m_Yard_part && okG (defScope s_Yard_part) g_Yard_part) = true := by decide +kernel
/-! cell_at -/
abbrev s_cell_at : Stmt := top 31
abbrev n_cell_at : List Str := ["_law_script", "_law_k"]
abbrev m_cell_at : Msk := [some ("_law_script", true), some ("_law_k", true)]
abbrev z_cell_at : L2.St := []
abbrev g_cell_at : List Str := ["len"]
theorem sc_cell_at : FnScope n_cell_at ["_law_script", "_law_k"] (defScope s_cell_at) := ⟨rfl, rfl, rfl, by decide +kernel, rfl, by decide +kernel, by decide +kernel⟩
theorem ok_cell_at : (okM (defScope s_cell_at) n_cell_at m_cell_at && okG (defScope s_cell_at) g_cell_at) = true := by decide +kernel
/-! well -/
abbrev s_well : Stmt := top 32
abbrev n_well : List Str := ["_law_cell"]
abbrev m_well : Msk := [some ("_law_cell", true)]
abbrev z_well : L2.St := []
abbrev g_well : List Str := ["int"]
theorem sc_well : FnScope n_well ["_law_cell"] (defScope s_well) := ⟨rfl, rfl, rfl, by decide +kernel, rfl, by decide +kernel, by decide +kernel⟩
theorem ok_well : (okM (defScope s_well) n_well m_well && okG (defScope s_well) g_well) = true := by decide +kernel
/-! draw -/
abbrev s_draw : Stmt := top 33
abbrev n_draw : List Str := ["_law_well_here", "_law_many", "_law_found", "_law_salt", "_law_number"]
abbrev m_draw : Msk := [some ("_law_well_here", true), some ("_law_many", true), some ("_law_found", true), some ("_law_salt", true), some ("_law_number", true)]
abbrev z_draw : L2.St := [none, none, none]
abbrev g_draw : List Str := []
theorem sc_draw : FnScope n_draw ["_law_well_here", "_law_many"] (defScope s_draw) := ⟨rfl, rfl, rfl, by decide +kernel, rfl, by decide +kernel, by decide +kernel⟩
theorem ok_draw : (okM (defScope s_draw) n_draw m_draw && okG (defScope s_draw) g_draw) = true := by decide +kernel
/-! one -/
abbrev s_one : Stmt := top 34
abbrev n_one : List Str := ["_law_well_here", "_law_some"]
abbrev m_one : Msk := [some ("_law_well_here", true), some ("_law_some", true)]
abbrev z_one : L2.St := []
abbrev g_one : List Str := ["_law_draw", "len"]
theorem sc_one : FnScope n_one ["_law_well_here", "_law_some"] (defScope s_one) := ⟨rfl, rfl, rfl, by decide +kernel, rfl, by decide +kernel, by decide +kernel⟩
theorem ok_one : (okM (defScope s_one) n_one m_one && okG (defScope s_one) g_one) = true := by decide +kernel
/-! joins -/
abbrev s_joins : Stmt := top 35
abbrev n_joins : List Str := ["_law_well_here", "_law_n", "_law_way", "_law_found", "_law_x", "_law_row_here", "_law_y", "_law_any_kind"]
abbrev m_joins : Msk := [some ("_law_well_here", true), some ("_law_n", true), some ("_law_way", true), some ("_law_found", true), some ("_law_x", true), some ("_law_row_here", true), some ("_law_y", true), some ("_law_any_kind", true)]
abbrev z_joins : L2.St := [none, none, none, none, none, none]
abbrev g_joins : List Str := ["_law_draw", "range", "max"]
theorem sc_joins : FnScope n_joins ["_law_well_here", "_law_n"] (defScope s_joins) := ⟨rfl, rfl, rfl, by decide +kernel, rfl, by decide +kernel, by decide +kernel⟩
theorem ok_joins : (okM (defScope s_joins) n_joins m_joins && okG (defScope s_joins) g_joins) = true := by decide +kernel
/-! row -/
abbrev s_row : Stmt := top 36
abbrev n_row : List Str := ["_law_well_here", "_law_n", "_law_most", "_law_k"]
abbrev m_row : Msk := [some ("_law_well_here", true), some ("_law_n", true), some ("_law_most", true), none]
abbrev z_row : L2.St := [none]
abbrev g_row : List Str := ["range", "_law_draw"]
theorem sc_row : FnScope n_row ["_law_well_here", "_law_n", "_law_most"] (defScope s_row) := ⟨rfl, rfl, rfl, by decide +kernel, rfl, by decide +kernel, by decide +kernel⟩
theorem ok_row : (okM (defScope s_row) n_row m_row && okG (defScope s_row) g_row) = true := by decide +kernel
abbrev oc0_row : List (Str × Nat) := [("_law_k", 3)]
abbrev mc0_row : Msk := [some ("_law_well_here", false), some ("_law_n", false), none, some ("_law_k", true)]
abbrev gc0_row : List Str := ["_law_draw"]
/-! order -/
abbrev s_order : Stmt := top 37
abbrev n_order : List Str := ["_law_well_here", "_law_size", "_law_k"]
abbrev m_order : Msk := [some ("_law_well_here", true), some ("_law_size", true), none]
abbrev z_order : L2.St := [none]
abbrev g_order : List Str := ["range"]
theorem sc_order : FnScope n_order ["_law_well_here", "_law_size"] (defScope s_order) := ⟨rfl, rfl, rfl, by decide +kernel, rfl, by decide +kernel, by decide +kernel⟩
theorem ok_order : (okM (defScope s_order) n_order m_order && okG (defScope s_order) g_order) = true := by decide +kernel
abbrev oc0_order : List (Str × Nat) := [("_law_k", 2)]
abbrev mc0_order : Msk := [some ("_law_well_here", false), some ("_law_size", false), some ("_law_k", true)]
abbrev gc0_order : List Str := ["_law_draw"]
/-! backwards -/
abbrev s_backwards : Stmt := top 38
abbrev n_backwards : List Str := ["_law_yard", "_law_steps_done", "_law_word", "_law_at"]
abbrev m_backwards : Msk := [some ("_law_yard", true), some ("_law_steps_done", true), some ("_law_word", true), some ("_law_at", true)]
abbrev z_backwards : L2.St := [none, none]
abbrev g_backwards : List Str := []
theorem sc_backwards : FnScope n_backwards ["_law_yard", "_law_steps_done"] (defScope s_backwards) := ⟨rfl, rfl, rfl, by decide +kernel, rfl, by decide +kernel, by decide +kernel⟩
theorem ok_backwards : (okM (defScope s_backwards) n_backwards m_backwards && okG (defScope s_backwards) g_backwards) = true := by decide +kernel
/-! possible -/
abbrev s_possible : Stmt := top 39
abbrev n_possible : List Str := ["_law_well_here", "_law_yard", "_law_shapes", "_law_some", "_law_at"]
abbrev m_possible : Msk := [some ("_law_well_here", true), some ("_law_yard", true), some ("_law_shapes", true), some ("_law_some", true), none]
abbrev z_possible : L2.St := [none, none, none]
abbrev g_possible : List Str := ["range", "len", "_law_one", "int"]
theorem sc_possible : FnScope n_possible ["_law_well_here", "_law_yard"] (defScope s_possible) := ⟨rfl, rfl, rfl, by decide +kernel, rfl, by decide +kernel, by decide +kernel⟩
theorem ok_possible : (okM (defScope s_possible) n_possible m_possible && okG (defScope s_possible) g_possible) = true := by decide +kernel
abbrev oc0_possible : List (Str × Nat) := [("_law_at", 4)]
abbrev mc0_possible : Msk := [none, none, none, none, some ("_law_at", true)]
abbrev gc0_possible : List Str := []
abbrev oc1_possible : List (Str × Nat) := [("_law_at", 4)]
abbrev mc1_possible : Msk := [none, none, some ("_law_shapes", false), none, some ("_law_at", true)]
abbrev gc1_possible : List Str := ["isinstance", "tuple"]
/-! sum -/
abbrev s_sum : Stmt := top 40
abbrev n_sum : List Str := ["_law_prices", "_law_row_here", "_law_kind"]
abbrev m_sum : Msk := [some ("_law_prices", true), some ("_law_row_here", true), none]
abbrev z_sum : L2.St := [none]
abbrev g_sum : List Str := ["sum"]
theorem sc_sum : FnScope n_sum ["_law_prices", "_law_row_here"] (defScope s_sum) := ⟨rfl, rfl, rfl, by decide +kernel, rfl, by decide +kernel, by decide +kernel⟩
theorem ok_sum : (okM (defScope s_sum) n_sum m_sum && okG (defScope s_sum) g_sum) = true := by decide +kernel
abbrev oc0_sum : List (Str × Nat) := [("_law_kind", 2)]
abbrev mc0_sum : Msk := [some ("_law_prices", false), none, some ("_law_kind", true)]
abbrev gc0_sum : List Str := []
/-! law -/
abbrev s_law : Stmt := top 41
abbrev n_law : List Str := ["_law_script", "_law_cell", "_law_well_here", "_law_n", "_law_joins_here", "_law_prices", "_law_table", "_law_row_here", "_law_yard", "_law_turn", "_law_step", "_law_toll", "_law_other", "_law_order_here", "_law_at", "_law_one_here", "_law_k"]
abbrev m_law : Msk := [some ("_law_script", true), some ("_law_cell", true), some ("_law_well_here", true), some ("_law_n", true), some ("_law_joins_here", true), some ("_law_prices", true), some ("_law_table", true), some ("_law_row_here", true), some ("_law_yard", true), some ("_law_turn", true), some ("_law_step", true), some ("_law_toll", true), some ("_law_other", true), some ("_law_order_here", true), some ("_law_at", true), some ("_law_one_here", true), none]
abbrev z_law : L2.St := [none, none, none, none, none, none, none, none, none, none, none, none, none, none, none, none]
abbrev g_law : List Str := ["_law_cell_at", "_law_well", "_law_draw", "_law_joins", "range", "Table", "tolls_of_worths", "_law_row", "Yard", "_law_possible", "_law_sum", "_law_order", "len", "result", "order_of", "_law_backwards", "list"]
theorem sc_law : FnScope n_law ["_law_script"] (defScope s_law) := ⟨rfl, rfl, rfl, by decide +kernel, rfl, by decide +kernel, by decide +kernel⟩
theorem ok_law : (okM (defScope s_law) n_law m_law && okG (defScope s_law) g_law) = true := by decide +kernel
abbrev oc0_law : List (Str × Nat) := [("_law_k", 16)]
abbrev mc0_law : Msk := [none, none, some ("_law_well_here", false), none, none, none, none, none, none, none, none, none, none, none, none, none, some ("_law_k", true)]
abbrev gc0_law : List Str := ["_law_one", "_law_draw"]
end Y

namespace Y
open PySem PySem.Spec PyProof.Rows L2
/-- membership, slots -/
local macro_rules | `(tactic| walk_at "mem") => `(tactic| (repeat (first | with_reducible exact List.mem_cons_self | with_reducible apply List.mem_cons_of_mem)))
local macro_rules | `(tactic| walk_at "at") => `(tactic| (repeat (first | with_reducible exact At2.z | with_reducible apply At2.s)))
local macro_rules | `(tactic| walk_at "up") => `(tactic| (repeat (first | with_reducible exact Up2.z | with_reducible apply Up2.s)))
local macro_rules | `(tactic| walk_at "upf") => `(tactic| (intro _; (repeat (first | with_reducible exact Up2.z | with_reducible apply Up2.s))))
local macro_rules | `(tactic| walk_at "sub") => `(tactic| (with_reducible first | assumption | exact Gr.sub (by assumption)))
/-- one step -/
local macro_rules | `(tactic| walk_at "y") => `(tactic| (with_reducible first
  | refine wss_cons ?_ | refine we_cst (by assumption) (by walk_at "mem") (by with_reducible assumption) ?_ | refine we_var (by assumption) (by walk_at "at") ?_ | refine we_int ?_ | refine we_negC ?_ | refine we_bl ?_ | refine we_non ?_ | refine we_str ?_
  | refine wa_cons ?_ | refine wa_nil ?_ | refine wk_cons ?_ | refine wk_nil ?_
  | refine we_ty (by assumption) (by walk_at "mem") (Std.int (by assumption)) b_int ?_ | refine we_ty (by assumption) (by walk_at "mem") (Std.bool (by assumption)) b_bool ?_
  | refine we_ty (by assumption) (by walk_at "mem") (Std.list (by assumption)) b_list ?_ | refine we_ty (by assumption) (by walk_at "mem") (Std.tuple (by assumption)) b_tuple ?_ | refine we_ty (by assumption) (by walk_at "mem") (Std.str (by assumption)) b_str ?_
  | refine we_bin ?_ | refine bo_add ?_ | refine bo_sub ?_ | refine bo_lt ?_ | refine bo_le ?_ | refine bo_gt ?_ | refine bo_ge ?_ | refine bo_eqI ?_ | refine bo_neI ?_ | refine bo_eqS ?_ | refine bo_neS ?_ | refine bo_eqB ?_ | refine bo_neB ?_ | refine bo_isN ?_ | refine bo_notN ?_
  | refine we_cmp ?_ | refine we_and ?_ | refine we_or ?_ | refine we_one ?_ | refine we_not ?_ | refine we_if ?_ | refine we_chain ?_
  | refine wt_cmp ?_ | refine wt_not ?_ | refine wt_bool ?_ | refine ww_and ?_ | refine ww_or ?_ | refine ww_and1 ?_ | refine ww_or1 ?_ | refine wt_chain ?_
  | refine we_callB (by assumption) (by walk_at "mem") (Std.isinstance (by assumption)) b_isinstance ?_ | refine we_callB (by assumption) (by walk_at "mem") (Std.len (by assumption)) b_len ?_
  | refine we_callTy (by assumption) (by walk_at "mem") (Std.int (by assumption)) b_int ?_
  | refine isi_int (by assumption) (by walk_at "sub") (by assumption) ?_ | refine isi_bool (by assumption) (by walk_at "sub") (by assumption) ?_ | refine isi_list (by assumption) (by walk_at "sub") (by assumption) ?_ | refine isi_tup (by assumption) (by walk_at "sub") (by assumption) ?_ | refine isi_str (by assumption) (by walk_at "sub") (by assumption) ?_
  | refine co_int ?_ | refine co_intB ?_
  | refine we_tup ?_ | refine we_lst ?_ | refine we_ix ?_ | refine we_slice ?_ | refine wo_none ?_ | refine wo_some ?_
  | refine ws_set (by assumption) ?_ | refine ws_ret ?_ | refine ws_if ?_ | refine ws_expr ?_ | refine ws_retN ?_ | refine ws_pass ?_ | refine ws_break ?_ | refine ws_cont ?_ | refine wss_nil ?_
  | refine iteT ?_ | refine iteF ?_ | refine exb ?_ | refine exi ?_ | refine exv ?_ | refine exu (by walk_at "up") ?_ | refine wt_call ?_
  | refine we_callK (by assumption) (by with_reducible assumption) (room_le (by assumption) (by decide)) passZ (by walk_at "mem") ?_
  | refine we_call (by assumption) (by with_reducible assumption) (room_le (by assumption) (by decide)) passZ (by walk_at "mem") ?_))

def isInt : PyData → Bool | .int _ => true | _ => false
def btw (d : PyData) (lo hi : Int) : Bool := match d with | .int i => decide (lo ≤ i) && decide (i ≤ hi) | _ => false
def spInteger (Z : Wd) : Sp := fun vs H Q _ => ∃ I v d, vs = [v] ∧ Same I H ∧ Dp Z.K I v d ∧ Q (.bl (isInt d)) H
theorem spInteger_i {Z : Wd} {I H : Hp} {v : V} {d : PyData} {Q : VK} {E : XK} (s : Same I H) (h : Dp Z.K I v d) (q : Q (.bl (isInt d)) H) : spInteger Z [v] H Q E := ⟨I, v, d, rfl, s, h, q⟩
def spBetween (Z : Wd) : Sp := fun vs H Q _ => ∃ I v lo hi d, vs = [v, .int lo, .int hi] ∧ Same I H ∧ Dp Z.K I v d ∧ Q (.bl (btw d lo hi)) H
theorem spBetween_i {Z : Wd} {I H : Hp} {v : V} {lo hi : Int} {d : PyData} {Q : VK} {E : XK} (s : Same I H) (h : Dp Z.K I v d) (q : Q (.bl (btw d lo hi)) H) : spBetween Z [v, .int lo, .int hi] H Q E := ⟨I, v, lo, hi, d, rfl, s, h, q⟩
theorem fn_is_integer {Z : Wd} {f : Addr} {fd : FuncData} (T : Std Z) (F : Fun Z.K "is_integer" "is_integer" s_is_integer f fd) : FnG Z 1 f fd ["value"] (spInteger Z) := by
  refine fnG_of F sc_is_integer ok_is_integer (fun vs H Q E h => ?_) (fun X H vs Q E B R h => ?_)
  · obtain ⟨I, v, d, rfl, _⟩ := h; rfl
  · obtain ⟨I, v, d, rfl, s, hd, q⟩ := h
    refine wst (σ' := some v :: z_is_integer) rfl (wss_cons ?_)
    repeat walk_at "y"
    refine ifb (fun h => ?_) (fun h => ?_)
    · repeat walk_at "y"
      cases d <;> first | exact q | cases h
    · cases d <;> first | exact q | cases h
theorem fn_is_between {Z : Wd} {f : Addr} {fd : FuncData} (T : Std Z) (F1 : Fn Z 1 "is_integer" ["value"] (spInteger Z)) (F : Fun Z.K "is_between" "is_between" s_is_between f fd) : FnG Z 2 f fd ["value", "low", "high"] (spBetween Z) := by
  refine fnG_of F sc_is_between ok_is_between (fun vs H Q E h => ?_) (fun X H vs Q E B R h => ?_)
  · obtain ⟨I, v, lo, hi, d, rfl, _⟩ := h; rfl
  · obtain ⟨I, v, lo, hi, d, rfl, s, hd, q⟩ := h
    have hr := R.room
    refine wst (σ' := some v :: some (.int lo) :: some (.int hi) :: z_is_between) rfl (wss_cons ?_)
    repeat walk_at "y"
    refine spInteger_i s hd ?_
    repeat walk_at "y"
    refine ifb (fun h => ?_) (fun h => ?_)
    · cases d with
      | int i =>
        cases hd
        repeat walk_at "y"
        refine ifd (fun h1 => ?_) (fun h1 => ?_)
        · repeat walk_at "y"
          simpa [btw, h1] using q
        · simpa [btw, h1] using q
      | _ => cases h
    · have e : btw d lo hi = false := by cases d <;> first | rfl | cases h
      rw [e] at q; exact q
end Y

namespace Y
open PySem PySem.Spec PyProof.Rows L2
/-- membership, slots -/
local macro_rules | `(tactic| walk_at "mem") => `(tactic| (repeat (first | with_reducible exact List.mem_cons_self | with_reducible apply List.mem_cons_of_mem)))
local macro_rules | `(tactic| walk_at "at") => `(tactic| (repeat (first | with_reducible exact At2.z | with_reducible apply At2.s)))
local macro_rules | `(tactic| walk_at "up") => `(tactic| (repeat (first | with_reducible exact Up2.z | with_reducible apply Up2.s)))
local macro_rules | `(tactic| walk_at "upf") => `(tactic| (intro _; (repeat (first | with_reducible exact Up2.z | with_reducible apply Up2.s))))
local macro_rules | `(tactic| walk_at "sub") => `(tactic| (with_reducible first | assumption | exact Gr.sub (by assumption)))
/-- one step -/
local macro_rules | `(tactic| walk_at "y") => `(tactic| (with_reducible first
  | refine wss_cons ?_ | refine we_cst (by assumption) (by walk_at "mem") (by with_reducible assumption) ?_ | refine we_var (by assumption) (by walk_at "at") ?_ | refine we_int ?_ | refine we_negC ?_ | refine we_bl ?_ | refine we_non ?_ | refine we_str ?_
  | refine wa_cons ?_ | refine wa_nil ?_ | refine wk_cons ?_ | refine wk_nil ?_
  | refine we_ty (by assumption) (by walk_at "mem") (Std.int (by assumption)) b_int ?_ | refine we_ty (by assumption) (by walk_at "mem") (Std.bool (by assumption)) b_bool ?_
  | refine we_ty (by assumption) (by walk_at "mem") (Std.list (by assumption)) b_list ?_ | refine we_ty (by assumption) (by walk_at "mem") (Std.tuple (by assumption)) b_tuple ?_ | refine we_ty (by assumption) (by walk_at "mem") (Std.str (by assumption)) b_str ?_
  | refine we_bin ?_ | refine bo_add ?_ | refine bo_sub ?_ | refine bo_lt ?_ | refine bo_le ?_ | refine bo_gt ?_ | refine bo_ge ?_ | refine bo_eqI ?_ | refine bo_neI ?_ | refine bo_eqS ?_ | refine bo_neS ?_ | refine bo_eqB ?_ | refine bo_neB ?_ | refine bo_isN ?_ | refine bo_notN ?_
  | refine we_cmp ?_ | refine we_and ?_ | refine we_or ?_ | refine we_one ?_ | refine we_not ?_ | refine we_if ?_ | refine we_chain ?_
  | refine wt_cmp ?_ | refine wt_not ?_ | refine wt_bool ?_ | refine ww_and ?_ | refine ww_or ?_ | refine ww_and1 ?_ | refine ww_or1 ?_ | refine wt_chain ?_
  | refine we_callB (by assumption) (by walk_at "mem") (Std.isinstance (by assumption)) b_isinstance ?_ | refine we_callB (by assumption) (by walk_at "mem") (Std.len (by assumption)) b_len ?_
  | refine we_callTy (by assumption) (by walk_at "mem") (Std.int (by assumption)) b_int ?_
  | refine isi_int (by assumption) (by walk_at "sub") (by assumption) ?_ | refine isi_bool (by assumption) (by walk_at "sub") (by assumption) ?_ | refine isi_list (by assumption) (by walk_at "sub") (by assumption) ?_ | refine isi_tup (by assumption) (by walk_at "sub") (by assumption) ?_ | refine isi_str (by assumption) (by walk_at "sub") (by assumption) ?_
  | refine co_int ?_ | refine co_intB ?_
  | refine we_tup ?_ | refine we_lst ?_ | refine we_ix ?_ | refine we_slice ?_ | refine wo_none ?_ | refine wo_some ?_
  | refine ws_set (by assumption) ?_ | refine ws_ret ?_ | refine ws_if ?_ | refine ws_expr ?_ | refine ws_retN ?_ | refine ws_pass ?_ | refine ws_break ?_ | refine ws_cont ?_ | refine wss_nil ?_
  | refine iteT ?_ | refine iteF ?_ | refine exb ?_ | refine exi ?_ | refine exv ?_ | refine exu (by walk_at "up") ?_ | refine wt_call ?_
  | refine we_callK (by assumption) (by with_reducible assumption) (room_le (by assumption) (by decide)) passZ (by walk_at "mem") ?_
  | refine we_call (by assumption) (by with_reducible assumption) (room_le (by assumption) (by decide)) passZ (by walk_at "mem") ?_))

/-- n rows of n ints from lo to hi -/
def Sq (rows : List (List Int)) (n : Nat) (lo hi : Int) : Prop := rows.length = n ∧ ∀ r ∈ rows, r.length = n ∧ ∀ x ∈ r, lo ≤ x ∧ x ≤ hi
def spGrid (Z : Wd) : Sp := fun vs H Q _ => ∃ I v why cw n lo hi rows, vs = [v, .str why, .str cw, .int (n : Nat), .int lo, .int hi] ∧ Same I H ∧ Dp Z.K I v (dG rows) ∧ Sq rows n lo hi ∧ ∀ H', Gr [] I H I H' → Q .non H'
theorem fn_check_grid {Z : Wd} {f : Addr} {fd : FuncData} (T : Std Z) (F1 : FnK Z 2 "is_between" ["value", "low", "high"] 1 ["low", "high"] (spBetween Z)) (F : Fun Z.K "check_grid" "check_grid" s_check_grid f fd) :
    FnG Z 3 f fd ["grid", "why", "cell_why", "size", "low", "high"] (spGrid Z) := by
  refine fnG_of F sc_check_grid ok_check_grid (fun vs H Q E h => ?_) (fun X H vs Q E B R h => ?_)
  · obtain ⟨I, v, why, cw, n, lo, hi, rows, rfl, _⟩ := h; rfl
  · obtain ⟨I, v, why, cw, n, lo, hi, rows, rfl, s, hd, ⟨hl, hv⟩, q⟩ := h
    have hr := R.room
    obtain ⟨a, xs, rfl, hsq, hds⟩ := hd.list_inv
    have hxl := hds.len
    refine wst (σ' := some (.ref a) :: some (.str why) :: some (.str cw) :: some (.int (n : Nat)) :: some (.int lo) :: some (.int hi) :: z_check_grid) rfl (wss_cons ?_)
    repeat walk_at "y"
    refine iteF ?_
    repeat walk_at "y"
    refine co_len B s (.inl hd) ?_
    repeat walk_at "y"
    refine ifnd (fun h1 => absurd (by rw [List.length_map]; omega) h1) (fun _ => ?_)
    repeat walk_at "y"
    refine ws_for B R.po (wi_enumS B (by walk_at "mem") T.enumerate ?_)
    repeat walk_at "y"
    refine ⟨a, xs, 1, rfl, rfl, by decide, B.sqL (s.seq hsq), fi_enumS (fun i r σ H' => ∃ u1 u2 u3 u4 rs, σ = [some (.ref a), some (.str why), some (.str cw), some (.int (n : Nat)), some (.int lo), some (.int hi), u1, u2, u3, u4] ∧ Gr [] I H I H' ∧ DpAll Z.K I r (rs.map dI) ∧ ∀ r ∈ rs, r.length = n ∧ ∀ x ∈ r, lo ≤ x ∧ x ≤ hi)
      ⟨_, _, _, _, rows, rfl, .refl s, hds, hv⟩ (fun i r σ H' ⟨_, _, _, _, _, _, g, _⟩ => B.sqL (g.sub.seq hsq)) ?_ ?_⟩
    · rintro i x r σ H1 t ⟨u1, u2, u3, u4, rs, rfl, g, hd1, hv1⟩ ht
      cases rs with
      | nil => cases hd1
      | cons row rs =>
        rw [List.map_cons] at hd1
        cases hd1 with
        | cons hrow hrest =>
          obtain ⟨hvr, hvs⟩ : (row.length = n ∧ ∀ x ∈ row, lo ≤ x ∧ x ≤ hi) ∧ ∀ r ∈ rs, r.length = n ∧ ∀ x ∈ r, lo ≤ x ∧ x ≤ hi := ⟨hv1 row (by simp), fun r hr => hv1 r (by simp [hr])⟩
          have g1 : Gr [] I H I (upd H1 t (.tup [.int (1 + (i : Nat)), x])) := g.tmp ht
          have s1 := g1.sub
          refine wg_pair B upd_same (by walk_at "up") (by walk_at "up") ?_
          obtain ⟨b, rfl, hb⟩ := dI_inv hrow
          repeat walk_at "y"
          refine iteF ?_
          repeat walk_at "y"
          refine co_len B s1 (.inl hrow) ?_
          repeat walk_at "y"
          refine ifnd (fun h1 => absurd (by rw [List.length_map]; omega) h1) (fun _ => ?_)
          repeat walk_at "y"
          refine ws_for B R.po (wi_enumS B (by walk_at "mem") T.enumerate ?_)
          repeat walk_at "y"
          refine ⟨b, _, 1, rfl, rfl, by decide, B.sqL (s1.seq hb), fi_enumS (fun j r' σ H' => ∃ u1 u2 ns, σ = [some (.ref a), some (.str why), some (.str cw), some (.int (n : Nat)), some (.int lo), some (.int hi), some (.int (1 + (i : Nat))), some (.ref b), u1, u2] ∧ Gr [] I H I H' ∧ r' = ns.map V.int ∧ ∀ x ∈ ns, lo ≤ x ∧ x ≤ hi)
            ⟨_, _, row, rfl, g1, rfl, hvr.2⟩ (fun i r σ H' ⟨_, _, _, _, g, _⟩ => B.sqL (g.sub.seq hb)) ?_ ?_⟩
          · rintro j y r' σ H2 t2 ⟨w1, w2, ns, rfl, g2, he, hns⟩ ht2
            cases ns with
            | nil => cases he
            | cons z ns =>
              cases he
              have g3 : Gr [] I H I (upd H2 t2 (.tup [.int (1 + (j : Nat)), .int z])) := g2.tmp ht2
              refine wg_pair B upd_same (by walk_at "up") (by walk_at "up") ?_
              repeat walk_at "y"
              refine ⟨rfl, rfl, spBetween_i g3.sub (.int z) ?_⟩
              have hz := hns z (by simp)
              have e : btw (.int z) lo hi = true := by simp [btw, hz]
              rw [e]
              repeat walk_at "y"
              refine iteF ?_
              repeat walk_at "y"
              exact ⟨_, _, ns, rfl, g3, rfl, fun x hx => hns x (by simp [hx])⟩
          · rintro j σ H2 ⟨w1, w2, ns, rfl, g2, he, hns⟩
            repeat walk_at "y"
            exact ⟨_, _, _, _, rs, rfl, g2, hrest, hvs⟩
    · rintro i σ H1 ⟨_, _, _, _, _, rfl, g, _⟩
      repeat walk_at "y"
      exact q _ g
end Y

namespace Y
open PySem PySem.Spec PyProof.Rows L2
/-- membership, slots -/
local macro_rules | `(tactic| walk_at "mem") => `(tactic| (repeat (first | with_reducible exact List.mem_cons_self | with_reducible apply List.mem_cons_of_mem)))
local macro_rules | `(tactic| walk_at "at") => `(tactic| (repeat (first | with_reducible exact At2.z | with_reducible apply At2.s)))
local macro_rules | `(tactic| walk_at "up") => `(tactic| (repeat (first | with_reducible exact Up2.z | with_reducible apply Up2.s)))
local macro_rules | `(tactic| walk_at "upf") => `(tactic| (intro _; (repeat (first | with_reducible exact Up2.z | with_reducible apply Up2.s))))
local macro_rules | `(tactic| walk_at "sub") => `(tactic| (with_reducible first | assumption | exact Gr.sub (by assumption)))
/-- one step -/
local macro_rules | `(tactic| walk_at "y") => `(tactic| (with_reducible first
  | refine wss_cons ?_ | refine we_cst (by assumption) (by walk_at "mem") (by with_reducible assumption) ?_ | refine we_var (by assumption) (by walk_at "at") ?_ | refine we_int ?_ | refine we_negC ?_ | refine we_bl ?_ | refine we_non ?_ | refine we_str ?_
  | refine wa_cons ?_ | refine wa_nil ?_ | refine wk_cons ?_ | refine wk_nil ?_
  | refine we_ty (by assumption) (by walk_at "mem") (Std.int (by assumption)) b_int ?_ | refine we_ty (by assumption) (by walk_at "mem") (Std.bool (by assumption)) b_bool ?_
  | refine we_ty (by assumption) (by walk_at "mem") (Std.list (by assumption)) b_list ?_ | refine we_ty (by assumption) (by walk_at "mem") (Std.tuple (by assumption)) b_tuple ?_ | refine we_ty (by assumption) (by walk_at "mem") (Std.str (by assumption)) b_str ?_
  | refine we_bin ?_ | refine bo_add ?_ | refine bo_sub ?_ | refine bo_lt ?_ | refine bo_le ?_ | refine bo_gt ?_ | refine bo_ge ?_ | refine bo_eqI ?_ | refine bo_neI ?_ | refine bo_eqS ?_ | refine bo_neS ?_ | refine bo_eqB ?_ | refine bo_neB ?_ | refine bo_isN ?_ | refine bo_notN ?_
  | refine we_cmp ?_ | refine we_and ?_ | refine we_or ?_ | refine we_one ?_ | refine we_not ?_ | refine we_if ?_ | refine we_chain ?_
  | refine wt_cmp ?_ | refine wt_not ?_ | refine wt_bool ?_ | refine ww_and ?_ | refine ww_or ?_ | refine ww_and1 ?_ | refine ww_or1 ?_ | refine wt_chain ?_
  | refine we_callB (by assumption) (by walk_at "mem") (Std.isinstance (by assumption)) b_isinstance ?_ | refine we_callB (by assumption) (by walk_at "mem") (Std.len (by assumption)) b_len ?_
  | refine we_callTy (by assumption) (by walk_at "mem") (Std.int (by assumption)) b_int ?_
  | refine isi_int (by assumption) (by walk_at "sub") (by assumption) ?_ | refine isi_bool (by assumption) (by walk_at "sub") (by assumption) ?_ | refine isi_list (by assumption) (by walk_at "sub") (by assumption) ?_ | refine isi_tup (by assumption) (by walk_at "sub") (by assumption) ?_ | refine isi_str (by assumption) (by walk_at "sub") (by assumption) ?_
  | refine co_int ?_ | refine co_intB ?_
  | refine we_tup ?_ | refine we_lst ?_ | refine we_ix ?_ | refine we_slice ?_ | refine wo_none ?_ | refine wo_some ?_
  | refine ws_set (by assumption) ?_ | refine ws_ret ?_ | refine ws_if ?_ | refine ws_expr ?_ | refine ws_retN ?_ | refine ws_pass ?_ | refine ws_break ?_ | refine ws_cont ?_ | refine wss_nil ?_
  | refine iteT ?_ | refine iteF ?_ | refine exb ?_ | refine exi ?_ | refine exv ?_ | refine exu (by walk_at "up") ?_ | refine wt_call ?_
  | refine we_callK (by assumption) (by with_reducible assumption) (room_le (by assumption) (by decide)) passZ (by walk_at "mem") ?_
  | refine we_call (by assumption) (by with_reducible assumption) (room_le (by assumption) (by decide)) passZ (by walk_at "mem") ?_))

/-! ### check_joins, Table -/
def Jok (J : List (List Int)) (n : Nat) : Prop := Sq J n 1 n ∧ 1 ≤ n ∧ n ≤ 5
def spCheckJoins (Z : Wd) : Sp := fun vs H Q _ => ∃ I v J n, vs = [v] ∧ Same I H ∧ Dp Z.K I v (dG J) ∧ Jok J n ∧ ∀ H', Gr [] I H I H' → Q .non H'
theorem spGrid_i {Z : Wd} {I H : Hp} {v : V} {why cw : Str} {n : Nat} {z lo hi : Int} {rows : List (List Int)} {Q : VK} {E : XK} (s : Same I H) (h : Dp Z.K I v (dG rows)) (hv : Sq rows n lo hi) (e : z = (n : Int)) (q : ∀ H', Gr [] I H I H' → Q .non H') :
    spGrid Z [v, .str why, .str cw, .int z, .int lo, .int hi] H Q E := ⟨I, v, why, cw, n, lo, hi, rows, by rw [e], s, h, hv, q⟩
theorem fn_check_joins {Z : Wd} {f : Addr} {fd : FuncData} (T : Std Z) (c1 : Cst Z "MOST_KINDS" 5) (F1 : FnK Z 3 "check_grid" ["grid", "why", "cell_why", "size", "low", "high"] 3 ["size", "low", "high"] (spGrid Z)) (F : Fun Z.K "check_joins" "check_joins" s_check_joins f fd) :
    FnG Z 4 f fd ["joins"] (spCheckJoins Z) := by
  refine fnG_of F sc_check_joins ok_check_joins (fun vs H Q E h => ?_) (fun X H vs Q E B R h => ?_)
  · obtain ⟨I, v, J, n, rfl, _⟩ := h; rfl
  · obtain ⟨I, v, J, n, rfl, s, hd, ⟨hv, h1, h5⟩, q⟩ := h
    have hr := R.room
    have hl : ((J.map dI).length : Int) = n := by rw [List.length_map, hv.1]
    refine wst (σ' := some v :: z_check_joins) rfl (wss_cons ?_)
    repeat walk_at "y"
    refine iteF ?_
    repeat walk_at "y"
    refine co_len B s (.inl hd) ?_
    rw [hl]
    repeat walk_at "y"
    refine ifd (fun _ => ?_) (fun h => absurd (by omega) h)
    repeat walk_at "y"
    refine ifnd (fun h => absurd (by omega) h) (fun _ => ?_)
    repeat walk_at "y"
    refine co_len B s (.inl hd) ?_
    repeat walk_at "y"
    refine co_len B s (.inl hd) ?_
    repeat walk_at "y"
    refine ⟨rfl, rfl, spGrid_i s hd (n := n) (by rw [hl]; exact hv) hl fun H' g => ?_⟩
    repeat walk_at "y"
    exact q H' g
/-- the table at t -/
def TabAt (Z : Wd) (C : Addr) (I : Hp) (t : Addr) (J T : List (List Int)) : Prop := ∃ dx r p, I t = some (.ins C dx [("results", .ref r), ("prices", .ref p)]) ∧ Dp Z.K I (.ref r) (tG J) ∧ Dp Z.K I (.ref p) (tG T)
def spTableInit (Z : Wd) (C : Addr) : Sp := fun vs H Q _ => ∃ I x dx v w J T n, vs = [.ref x, v, w] ∧ Same I H ∧ I x = none ∧ H x = some (.ins C dx []) ∧ Dp Z.K I v (dG J) ∧ Dp Z.K I w (dG T) ∧ Jok J n ∧ Sq T n (-999999999999) 999999999999 ∧
  ∀ I' H' r p, Gr [x] I H I' H' → H' x = some (.ins C dx [("results", .ref r), ("prices", .ref p)]) → Dp Z.K I' (.ref r) (tG J) → Dp Z.K I' (.ref p) (tG T) → Q .non H'

structure TabC (Z : Wd) (C : Addr) : Prop where
  cl : Cls Z.K C
  nr : NoAttr Z.K C "results"
  np : NoAttr Z.K C "prices"
def tupD : PyData → PyData | .list ds => .tuple ds | d => d
theorem tup_elt {Z : Wd} {X : Cx} {N : List Str} {sc : Scope} {M : Msk} {G : List Str} {σ : L2.St} {I0 H0 I1 H1 : Hp} {p pf pa : Pos} {x : Str} {y : V} {d : PyData} {J : List (List Int)} (B : Bd Z X N sc M G) (T : Std Z) (hg : ("tuple" : Str) ∈ G) (ha : At2 M σ x y) (g : Gr [] I0 H0 I1 H1) (hy : Dp Z.K I1 y d) (hd : d ∈ J.map dI) :
    WE X (.Call (.Name "tuple" pf) [.Name x pa] [] p) σ H1 fun u H2 => ∃ I2, Gr [] I1 H1 I2 H2 ∧ Dp Z.K I2 u (tupD d) := by
  obtain ⟨r, _, rfl⟩ := List.mem_map.mp hd
  refine we_callTy B hg T.tuple b_tuple (wa_cons (we_var B ha (wa_nil ?_)))
  refine co_tuple B g.sub hy fun l us hl hus => ⟨_, (Gr.refl g.sub).new hl, dT_of upd_same (dps_mono (same_upd g.sub hl) hus)⟩
theorem fn_Table_init {Z : Wd} {f C : Addr} {fd : FuncData} (T : Std Z) (K : TabC Z C) (c1 : Cst Z "TOLL_BOUND" 1000000000000) (F1 : Fn Z 4 "check_joins" ["joins"] (spCheckJoins Z)) (F2 : FnK Z 3 "check_grid" ["grid", "why", "cell_why", "size", "low", "high"] 3 ["size", "low", "high"] (spGrid Z))
    (F : Fun Z.K "__init__" "Table.__init__" s_Table_init f fd) : FnG Z 5 f fd ["self", "joins", "tolls"] (spTableInit Z C) := by
  refine fnG_of F sc_Table_init ok_Table_init (fun vs H Q E h => ?_) (fun X H vs Q E B R h => ?_)
  · obtain ⟨I, x, dx, v, w, J, T, n, rfl, _⟩ := h; rfl
  · obtain ⟨I, x, dx, v, w, J, T', n, rfl, s, hxI, hx, hj, ht, hJ, hT, q⟩ := h
    have hr := R.room
    obtain ⟨a, xs, rfl, hsq, hds⟩ := hj.list_inv
    obtain ⟨b, ys, rfl, hsq2, hds2⟩ := ht.list_inv
    have hl : ((J.map dI).length : Int) = n := by rw [List.length_map, hJ.1.1]
    refine wst (σ' := some (.ref x) :: some (.ref a) :: some (.ref b) :: z_Table_init) rfl (wss_cons ?_)
    repeat walk_at "y"
    refine ⟨I, _, J, n, rfl, s, hj, hJ, fun H1 g1 => ?_⟩
    repeat walk_at "y"
    refine co_len B g1.sub (.inl hj) ?_
    repeat walk_at "y"
    refine ⟨rfl, rfl, spGrid_i g1.sub ht hT hl fun H2 g2 => ?_⟩
    have g12 := g1.trans g2
    have hx2 : H2 x = some (.ins C dx []) := g12.keep _ _ hx (by simp)
    repeat walk_at "y"
    refine ws_fld ?_
    refine we_callTy B (by walk_at "mem") T.tuple b_tuple (wa_cons ?_)
    refine we_lc (own := oc0_Table_init) B (by decide +kernel) (wi_list ?_)
    repeat walk_at "y"
    refine ⟨a, rfl, ⟨_, B.sqL (g12.sub.seq hsq)⟩, ?_⟩
    refine li_pure (M' := mc0_Table_init) (G' := gc0_Table_init) (I0 := I) (σ0 := [some (.ref x), some (.ref a), some (.ref b), none]) tupD B (by decide +kernel) g12.sub hsq hds (by rw [List.length_map]; have := hJ.1.1; have := hJ.2.2; omega) rfl (fun d hdm y => ⟨_, by walk_at "up", rfl, fun I1 H3 g3 hy X' hA B' => ?_⟩) (fun v1 I3 H3 g3 hv1 => ?_)
    · exact tup_elt B' T (by walk_at "mem") (by walk_at "at") g3 hy hdm
    · rw [List.map_map] at hv1
      refine wa_nil ?_
      have G3 := g12.trans g3
      refine co_tuple B g3.sub hv1 fun l1 us1 hl1 hus1 => ?_
      have G4 := G3.new (o := .tup us1) hl1
      have hr1 : Dp Z.K (upd I3 l1 (.tup us1)) (.ref l1) (tG J) := dT_of upd_same (dps_mono (same_upd g3.sub hl1) hus1)
      generalize hI4 : upd I3 l1 (.tup us1) = I4 at G4 hr1
      generalize hH4 : upd H3 l1 (.tup us1) = H4 at G4 ⊢
      have hx4 : H4 x = some (.ins C dx []) := G4.keep _ _ hx (by simp)
      have hxI4 : I4 x = none := G4.out hxI hx
      repeat walk_at "y"
      refine ⟨x, C, dx, [], rfl, hx4, B.cls K.cl, B.noa K.nr, by decide, ?_⟩
      have G5 : Gr [x] I H I4 (upd H4 x (.ins C dx [("results", .ref l1)])) := (G4.nil).mut hxI4 (.inl (by simp))
      have e5 : putF "results" (V.ref l1) [] = ([("results", .ref l1)] : List (Str × V)) := rfl
      rw [e5]
      generalize hH5 : upd H4 x (.ins C dx [("results", .ref l1)]) = H5 at G5 ⊢
      have hx5 : H5 x = some (.ins C dx [("results", .ref l1)]) := by rw [← hH5]; exact upd_same
      refine wss_cons (ws_fld ?_)
      refine we_callTy B (by walk_at "mem") T.tuple b_tuple (wa_cons ?_)
      refine we_lc (own := oc1_Table_init) B (by decide +kernel) (wi_list ?_)
      repeat walk_at "y"
      refine ⟨b, rfl, ⟨_, B.sqL ((G5.ii.trans G5.sub).seq hsq2)⟩, ?_⟩
      refine li_pure (M' := mc1_Table_init) (G' := gc1_Table_init) (I0 := I4) (σ0 := [some (.ref x), some (.ref a), some (.ref b), none]) tupD B (by decide +kernel) G5.sub (G5.ii.seq hsq2) (dps_mono G5.ii hds2) (by rw [List.length_map]; have := hT.1; have := hJ.2.2; omega) rfl (fun d hdm y => ⟨_, by walk_at "up", rfl, fun I1 H3 g3 hy X' hA B' => ?_⟩) (fun v2 I6 H6 g6 hv2 => ?_)
      · exact tup_elt B' T (by walk_at "mem") (by walk_at "at") g3 hy hdm
      · rw [List.map_map] at hv2
        refine wa_nil ?_
        refine co_tuple B g6.sub hv2 fun l2 us2 hl2 hus2 => ?_
        have G7 := (G5.trans g6.nil).new (o := .tup us2) hl2
        have hr2 : Dp Z.K (upd I6 l2 (.tup us2)) (.ref l2) (tG T') := dT_of upd_same (dps_mono (same_upd g6.sub hl2) hus2)
        have hi : Same I4 (upd I6 l2 (.tup us2)) := g6.ii.trans (same_upd g6.sub hl2)
        have hx6 : upd H6 l2 (.tup us2) x = some (.ins C dx [("results", .ref l1)]) := by
          have := g6.keep _ _ hx5 (by simp)
          rw [upd_ne (ne_none this hl2)]; exact this
        have hxI7 : upd I6 l2 (.tup us2) x = none := G7.out hxI hx
        repeat walk_at "y"
        refine ⟨x, C, dx, _, rfl, hx6, B.cls K.cl, B.noa K.np, (by decide : (1 : Nat) < 1000), ?_⟩
        repeat walk_at "y"
        exact q _ _ l1 l2 (G7.mut hxI7 (.inl (by simp))) upd_same (dp_mono hi hr1) hr2
end Y

namespace Y
open PySem PySem.Spec PyProof.Rows L2
/-- membership, slots -/
local macro_rules | `(tactic| walk_at "mem") => `(tactic| (repeat (first | with_reducible exact List.mem_cons_self | with_reducible apply List.mem_cons_of_mem)))
local macro_rules | `(tactic| walk_at "at") => `(tactic| (repeat (first | with_reducible exact At2.z | with_reducible apply At2.s)))
local macro_rules | `(tactic| walk_at "up") => `(tactic| (repeat (first | with_reducible exact Up2.z | with_reducible apply Up2.s)))
local macro_rules | `(tactic| walk_at "upf") => `(tactic| (intro _; (repeat (first | with_reducible exact Up2.z | with_reducible apply Up2.s))))
local macro_rules | `(tactic| walk_at "sub") => `(tactic| (with_reducible first | assumption | exact Gr.sub (by assumption)))
/-- one step -/
local macro_rules | `(tactic| walk_at "y") => `(tactic| (with_reducible first
  | refine wss_cons ?_ | refine we_cst (by assumption) (by walk_at "mem") (by with_reducible assumption) ?_ | refine we_var (by assumption) (by walk_at "at") ?_ | refine we_int ?_ | refine we_negC ?_ | refine we_bl ?_ | refine we_non ?_ | refine we_str ?_
  | refine wa_cons ?_ | refine wa_nil ?_ | refine wk_cons ?_ | refine wk_nil ?_
  | refine we_ty (by assumption) (by walk_at "mem") (Std.int (by assumption)) b_int ?_ | refine we_ty (by assumption) (by walk_at "mem") (Std.bool (by assumption)) b_bool ?_
  | refine we_ty (by assumption) (by walk_at "mem") (Std.list (by assumption)) b_list ?_ | refine we_ty (by assumption) (by walk_at "mem") (Std.tuple (by assumption)) b_tuple ?_ | refine we_ty (by assumption) (by walk_at "mem") (Std.str (by assumption)) b_str ?_
  | refine we_bin ?_ | refine bo_add ?_ | refine bo_sub ?_ | refine bo_lt ?_ | refine bo_le ?_ | refine bo_gt ?_ | refine bo_ge ?_ | refine bo_eqI ?_ | refine bo_neI ?_ | refine bo_eqS ?_ | refine bo_neS ?_ | refine bo_eqB ?_ | refine bo_neB ?_ | refine bo_isN ?_ | refine bo_notN ?_
  | refine we_cmp ?_ | refine we_and ?_ | refine we_or ?_ | refine we_one ?_ | refine we_not ?_ | refine we_if ?_ | refine we_chain ?_
  | refine wt_cmp ?_ | refine wt_not ?_ | refine wt_bool ?_ | refine ww_and ?_ | refine ww_or ?_ | refine ww_and1 ?_ | refine ww_or1 ?_ | refine wt_chain ?_
  | refine we_callB (by assumption) (by walk_at "mem") (Std.isinstance (by assumption)) b_isinstance ?_ | refine we_callB (by assumption) (by walk_at "mem") (Std.len (by assumption)) b_len ?_
  | refine we_callTy (by assumption) (by walk_at "mem") (Std.int (by assumption)) b_int ?_
  | refine isi_int (by assumption) (by walk_at "sub") (by assumption) ?_ | refine isi_bool (by assumption) (by walk_at "sub") (by assumption) ?_ | refine isi_list (by assumption) (by walk_at "sub") (by assumption) ?_ | refine isi_tup (by assumption) (by walk_at "sub") (by assumption) ?_ | refine isi_str (by assumption) (by walk_at "sub") (by assumption) ?_
  | refine co_int ?_ | refine co_intB ?_
  | refine we_tup ?_ | refine we_lst ?_ | refine we_ix ?_ | refine we_slice ?_ | refine wo_none ?_ | refine wo_some ?_
  | refine ws_set (by assumption) ?_ | refine ws_ret ?_ | refine ws_if ?_ | refine ws_expr ?_ | refine ws_retN ?_ | refine ws_pass ?_ | refine ws_break ?_ | refine ws_cont ?_ | refine wss_nil ?_
  | refine iteT ?_ | refine iteF ?_ | refine exb ?_ | refine exi ?_ | refine exv ?_ | refine exu (by walk_at "up") ?_ | refine wt_call ?_
  | refine we_callK (by assumption) (by with_reducible assumption) (room_le (by assumption) (by decide)) passZ (by walk_at "mem") ?_
  | refine we_call (by assumption) (by with_reducible assumption) (room_le (by assumption) (by decide)) passZ (by walk_at "mem") ?_))

theorem tab_mono {Z : Wd} {C t : Addr} {I I' : Hp} {J T : List (List Int)} (s : Same I I') (h : TabAt Z C I t J T) : TabAt Z C I' t J T := by
  obtain ⟨dx, r, p, h1, h2, h3⟩ := h
  exact ⟨dx, r, p, s _ _ h1, dp_mono s h2, dp_mono s h3⟩
def spCount (Z : Wd) (C : Addr) : Sp := fun vs H Q _ => ∃ I t J T n, vs = [.ref t] ∧ Same I H ∧ TabAt Z C I t J T ∧ Jok J n ∧ Q (.int (n : Nat)) H
theorem fn_Table_count {Z : Wd} {f C : Addr} {fd : FuncData} (T : Std Z) (K : TabC Z C) (F : Fun Z.K "count" "Table.count" s_Table_count f fd) : FnG Z 1 f fd ["self"] (spCount Z C) := by
  refine fnG_of F sc_Table_count ok_Table_count (fun vs H Q E h => ?_) (fun X H vs Q E B R h => ?_)
  · obtain ⟨I, t, J, T, n, rfl, _⟩ := h; rfl
  · obtain ⟨I, t, J, T, n, rfl, s, ⟨dx, r, p, h1, h2, h3⟩, hJ, q⟩ := h
    refine wst (σ' := some (.ref t) :: z_Table_count) rfl (wss_cons ?_)
    repeat walk_at "y"
    refine we_fldI B K.cl K.nr ?_
    repeat walk_at "y"
    refine ⟨t, dx, _, .ref r, rfl, s _ _ h1, rfl, ?_⟩
    repeat walk_at "y"
    refine co_len B s (.inr h2) ?_
    rw [List.length_map, hJ.1.1]; exact q
def spCheckKind (Z : Wd) (C : Addr) : Sp := fun vs H Q _ => ∃ I t J T n i, vs = [.ref t, .int i] ∧ Same I H ∧ TabAt Z C I t J T ∧ Jok J n ∧ 1 ≤ i ∧ i ≤ (n : Int) ∧ Q .non H
theorem fn_Table_check_kind {Z : Wd} {f C : Addr} {fd : FuncData} (T : Std Z) (K : TabC Z C) (F1 : FnK Z 2 "is_between" ["value", "low", "high"] 1 ["low", "high"] (spBetween Z)) (M1 : Mth Z 1 C "count" ["self"] (spCount Z C))
    (F : Fun Z.K "check_kind" "Table.check_kind" s_Table_check_kind f fd) : FnG Z 3 f fd ["self", "kind"] (spCheckKind Z C) := by
  refine fnG_of F sc_Table_check_kind ok_Table_check_kind (fun vs H Q E h => ?_) (fun X H vs Q E B R h => ?_)
  · obtain ⟨I, t, J, T, n, i, rfl, _⟩ := h; rfl
  · obtain ⟨I, t, J, T', n, i, rfl, s, ht, hJ, h1, h2, q⟩ := h
    have hr := R.room
    obtain ⟨dx, r, p, ht1, ht2, ht3⟩ := id ht
    refine wst (σ' := some (.ref t) :: some (.int i) :: z_Table_check_kind) rfl (wss_cons ?_)
    repeat walk_at "y"
    refine we_meth0 B M1 (room_le hr (by decide)) passZ ?_
    repeat walk_at "y"
    refine ⟨t, dx, _, rfl, s _ _ ht1, rfl, I, t, J, T', n, rfl, s, ht, hJ, ?_⟩
    repeat walk_at "y"
    refine ⟨rfl, rfl, spBetween_i s (.int i) ?_⟩
    have e : btw (.int i) 1 n = true := by simp [btw, h1, h2]
    rw [e]
    repeat walk_at "y"
    refine iteF ?_
    repeat walk_at "y"
    exact q
def cel (J : List (List Int)) (i j : Int) : Int := (J.getD (i - 1).toNat []).getD (j - 1).toNat 0
theorem atI_nn {α : Type} {xs : List α} {i : Int} {x : α} (h0 : 0 ≤ i) (h : xs[i.toNat]? = some x) : atI xs i = some x := by
  have hl : i.toNat < xs.length := (List.getElem?_eq_some_iff.mp h).1
  refine atI_of (j := i.toNat) ?_ h
  unfold ixN
  rw [if_pos h0, if_pos (by omega)]
theorem Sq.row {J : List (List Int)} {n : Nat} {lo hi i : Int} (h : Sq J n lo hi) (h1 : 1 ≤ i) (h2 : i ≤ n) : ∃ r, J[(i - 1).toNat]? = some r ∧ J.getD (i - 1).toNat [] = r ∧ r ∈ J ∧ r.length = n := by
  have hl : (i - 1).toNat < J.length := by rw [h.1]; omega
  refine ⟨J[(i - 1).toNat], List.getElem?_eq_getElem hl, ?_, List.getElem_mem hl, (h.2 _ (List.getElem_mem hl)).1⟩
  rw [List.getD_eq_getElem?_getD, List.getElem?_eq_getElem hl]; rfl
theorem Sq.cel {J : List (List Int)} {n : Nat} {lo hi i j : Int} (h : Sq J n lo hi) (h1 : 1 ≤ i) (h2 : i ≤ n) (h3 : 1 ≤ j) (h4 : j ≤ n) : ∃ r, J[(i - 1).toNat]? = some r ∧ r[(j - 1).toNat]? = some (cel J i j) ∧ lo ≤ cel J i j ∧ cel J i j ≤ hi := by
  obtain ⟨r, e1, e2, hm, hl⟩ := h.row h1 h2
  have hj : (j - 1).toNat < r.length := by rw [hl]; omega
  have e : Y.cel J i j = r[(j - 1).toNat] := by unfold Y.cel; rw [e2, List.getD_eq_getElem?_getD, List.getElem?_eq_getElem hj]; rfl
  refine ⟨r, e1, by rw [e, List.getElem?_eq_getElem hj], ?_⟩
  rw [e]
  exact (h.2 r hm).2 _ (List.getElem_mem hj)
theorem tG_row {rows : List (List Int)} {k : Nat} {r : List Int} (h : rows[k]? = some r) : (rows.map tI)[k]? = some (tI r) := by rw [List.getElem?_map, h]; rfl
theorem tI_cell {r : List Int} {k : Nat} {x : Int} (h : r[k]? = some x) : (r.map PyData.int)[k]? = some (.int x) := by rw [List.getElem?_map, h]; rfl
def spCell (Z : Wd) (C : Addr) (b : Bool) : Sp := fun vs H Q _ => ∃ I t J T n i j lo hi, vs = [.ref t, .int i, .int j] ∧ Same I H ∧ TabAt Z C I t J T ∧ Jok J n ∧ Sq T n lo hi ∧ 1 ≤ i ∧ i ≤ (n : Int) ∧ 1 ≤ j ∧ j ≤ (n : Int) ∧ Q (.int (cel (if b then J else T) i j)) H
theorem fn_Table_join {Z : Wd} {f C : Addr} {fd : FuncData} (T : Std Z) (K : TabC Z C) (M1 : Mth Z 3 C "check_kind" ["self", "kind"] (spCheckKind Z C))
    (F : Fun Z.K "join" "Table.join" s_Table_join f fd) : FnG Z 4 f fd ["self", "left", "right"] (spCell Z C true) := by
  refine fnG_of F sc_Table_join ok_Table_join (fun vs H Q E h => ?_) (fun X H vs Q E B R h => ?_)
  · obtain ⟨I, t, J, T, n, i, j, lo, hi, rfl, _⟩ := h; rfl
  · obtain ⟨I, t, J, T', n, i, j, lo, hi, rfl, s, ht, hJ, hT, h1, h2, h3, h4, q⟩ := h
    have hr := R.room
    obtain ⟨dx, r, p, ht1, ht2, ht3⟩ := id ht
    refine wst (σ' := some (.ref t) :: some (.int i) :: some (.int j) :: z_Table_join) rfl (wss_cons ?_)
    repeat walk_at "y"
    refine we_meth B M1 (room_le hr (by decide)) passZ ?_
    repeat walk_at "y"
    refine ⟨t, dx, _, rfl, s _ _ ht1, rfl, ?_⟩
    repeat walk_at "y"
    refine ⟨I, t, J, T', n, i, rfl, s, ht, hJ, h1, h2, ?_⟩
    repeat walk_at "y"
    refine we_meth B M1 (room_le hr (by decide)) passZ ?_
    repeat walk_at "y"
    refine ⟨t, dx, _, rfl, s _ _ ht1, rfl, ?_⟩
    repeat walk_at "y"
    refine ⟨I, t, J, T', n, j, rfl, s, ht, hJ, h3, h4, ?_⟩
    repeat walk_at "y"
    refine we_fldI B K.cl K.nr ?_
    repeat walk_at "y"
    refine ⟨t, dx, _, .ref r, rfl, s _ _ ht1, rfl, ?_⟩
    obtain ⟨row, e1, e2, _⟩ := hJ.1.cel h1 h2 h3 h4
    repeat walk_at "y"
    refine io_T B s ht2 (atI_nn (by omega) (tG_row e1)) fun v hv => ?_
    repeat walk_at "y"
    refine io_T B s hv (atI_nn (by omega) (tI_cell e2)) fun u hu => ?_
    cases hu
    exact q
theorem fn_Table_toll {Z : Wd} {f C : Addr} {fd : FuncData} (T : Std Z) (K : TabC Z C) (M1 : Mth Z 3 C "check_kind" ["self", "kind"] (spCheckKind Z C))
    (F : Fun Z.K "toll" "Table.toll" s_Table_toll f fd) : FnG Z 4 f fd ["self", "left", "right"] (spCell Z C false) := by
  refine fnG_of F sc_Table_toll ok_Table_toll (fun vs H Q E h => ?_) (fun X H vs Q E B R h => ?_)
  · obtain ⟨I, t, J, T, n, i, j, lo, hi, rfl, _⟩ := h; rfl
  · obtain ⟨I, t, J, T', n, i, j, lo, hi, rfl, s, ht, hJ, hT, h1, h2, h3, h4, q⟩ := h
    have hr := R.room
    obtain ⟨dx, r, p, ht1, ht2, ht3⟩ := id ht
    refine wst (σ' := some (.ref t) :: some (.int i) :: some (.int j) :: z_Table_toll) rfl (wss_cons ?_)
    repeat walk_at "y"
    refine we_meth B M1 (room_le hr (by decide)) passZ ?_
    repeat walk_at "y"
    refine ⟨t, dx, _, rfl, s _ _ ht1, rfl, ?_⟩
    repeat walk_at "y"
    refine ⟨I, t, J, T', n, i, rfl, s, ht, hJ, h1, h2, ?_⟩
    repeat walk_at "y"
    refine we_meth B M1 (room_le hr (by decide)) passZ ?_
    repeat walk_at "y"
    refine ⟨t, dx, _, rfl, s _ _ ht1, rfl, ?_⟩
    repeat walk_at "y"
    refine ⟨I, t, J, T', n, j, rfl, s, ht, hJ, h3, h4, ?_⟩
    repeat walk_at "y"
    refine we_fldI B K.cl K.np ?_
    repeat walk_at "y"
    refine ⟨t, dx, _, .ref p, rfl, s _ _ ht1, rfl, ?_⟩
    obtain ⟨row, e1, e2, _⟩ := hT.cel h1 h2 h3 h4
    repeat walk_at "y"
    refine io_T B s ht3 (atI_nn (by omega) (tG_row e1)) fun v hv => ?_
    repeat walk_at "y"
    refine io_T B s hv (atI_nn (by omega) (tI_cell e2)) fun u hu => ?_
    cases hu
    exact q
end Y

namespace Y
open PySem PySem.Spec PyProof.Rows L2
/-- membership, slots -/
local macro_rules | `(tactic| walk_at "mem") => `(tactic| (repeat (first | with_reducible exact List.mem_cons_self | with_reducible apply List.mem_cons_of_mem)))
local macro_rules | `(tactic| walk_at "at") => `(tactic| (repeat (first | with_reducible exact At2.z | with_reducible apply At2.s)))
local macro_rules | `(tactic| walk_at "up") => `(tactic| (repeat (first | with_reducible exact Up2.z | with_reducible apply Up2.s)))
local macro_rules | `(tactic| walk_at "upf") => `(tactic| (intro _; (repeat (first | with_reducible exact Up2.z | with_reducible apply Up2.s))))
local macro_rules | `(tactic| walk_at "sub") => `(tactic| (with_reducible first | assumption | exact Gr.sub (by assumption)))
/-- one step -/
local macro_rules | `(tactic| walk_at "y") => `(tactic| (with_reducible first
  | refine wss_cons ?_ | refine we_cst (by assumption) (by walk_at "mem") (by with_reducible assumption) ?_ | refine we_var (by assumption) (by walk_at "at") ?_ | refine we_int ?_ | refine we_negC ?_ | refine we_bl ?_ | refine we_non ?_ | refine we_str ?_
  | refine wa_cons ?_ | refine wa_nil ?_ | refine wk_cons ?_ | refine wk_nil ?_
  | refine we_ty (by assumption) (by walk_at "mem") (Std.int (by assumption)) b_int ?_ | refine we_ty (by assumption) (by walk_at "mem") (Std.bool (by assumption)) b_bool ?_
  | refine we_ty (by assumption) (by walk_at "mem") (Std.list (by assumption)) b_list ?_ | refine we_ty (by assumption) (by walk_at "mem") (Std.tuple (by assumption)) b_tuple ?_ | refine we_ty (by assumption) (by walk_at "mem") (Std.str (by assumption)) b_str ?_
  | refine we_bin ?_ | refine bo_add ?_ | refine bo_sub ?_ | refine bo_lt ?_ | refine bo_le ?_ | refine bo_gt ?_ | refine bo_ge ?_ | refine bo_eqI ?_ | refine bo_neI ?_ | refine bo_eqS ?_ | refine bo_neS ?_ | refine bo_eqB ?_ | refine bo_neB ?_ | refine bo_isN ?_ | refine bo_notN ?_
  | refine we_cmp ?_ | refine we_and ?_ | refine we_or ?_ | refine we_one ?_ | refine we_not ?_ | refine we_if ?_ | refine we_chain ?_
  | refine wt_cmp ?_ | refine wt_not ?_ | refine wt_bool ?_ | refine ww_and ?_ | refine ww_or ?_ | refine ww_and1 ?_ | refine ww_or1 ?_ | refine wt_chain ?_
  | refine we_callB (by assumption) (by walk_at "mem") (Std.isinstance (by assumption)) b_isinstance ?_ | refine we_callB (by assumption) (by walk_at "mem") (Std.len (by assumption)) b_len ?_
  | refine we_callTy (by assumption) (by walk_at "mem") (Std.int (by assumption)) b_int ?_
  | refine isi_int (by assumption) (by walk_at "sub") (by assumption) ?_ | refine isi_bool (by assumption) (by walk_at "sub") (by assumption) ?_ | refine isi_list (by assumption) (by walk_at "sub") (by assumption) ?_ | refine isi_tup (by assumption) (by walk_at "sub") (by assumption) ?_ | refine isi_str (by assumption) (by walk_at "sub") (by assumption) ?_
  | refine co_int ?_ | refine co_intB ?_
  | refine we_tup ?_ | refine we_lst ?_ | refine we_ix ?_ | refine we_slice ?_ | refine wo_none ?_ | refine wo_some ?_
  | refine ws_set (by assumption) ?_ | refine ws_ret ?_ | refine ws_if ?_ | refine ws_expr ?_ | refine ws_retN ?_ | refine ws_pass ?_ | refine ws_break ?_ | refine ws_cont ?_ | refine wss_nil ?_
  | refine iteT ?_ | refine iteF ?_ | refine exb ?_ | refine exi ?_ | refine exv ?_ | refine exu (by walk_at "up") ?_ | refine wt_call ?_
  | refine we_callK (by assumption) (by with_reducible assumption) (room_le (by assumption) (by decide)) passZ (by walk_at "mem") ?_
  | refine we_call (by assumption) (by with_reducible assumption) (room_le (by assumption) (by decide)) passZ (by walk_at "mem") ?_))

def wAt (ws : List Int) (k : Int) : Int := ws.getD (k - 1).toNat 0
def tollRow (ws : List Int) (l : Int) (row : List Int) : List Int := (ws.zip row).map fun q => l + q.1 - wAt ws q.2
def tollsOf (J : List (List Int)) (ws : List Int) : List (List Int) := (ws.zip J).map fun p => tollRow ws p.1 p.2
def spTolls (Z : Wd) : Sp := fun vs H Q _ => ∃ I v w J ws n, vs = [v, w] ∧ Same I H ∧ Dp Z.K I v (dG J) ∧ Dp Z.K I w (dI ws) ∧ Jok J n ∧ ws.length = n ∧ (∀ x ∈ ws, -99999999999 ≤ x ∧ x ≤ 99999999999) ∧ ∀ u I' H', Gr [] I H I' H' → Dp Z.K I' u (dG (tollsOf J ws)) → Q u H'
theorem ints_get {ns : List Int} {i : Nat} {y : V} (h : (ns.map V.int)[i]? = some y) : ∃ z, y = .int z ∧ ns[i]? = some z := by
  rw [List.getElem?_map] at h
  cases e : ns[i]? with
  | none => rw [e] at h; cases h
  | some z => rw [e] at h; exact ⟨z, by cases h; rfl, rfl⟩
theorem take_zip_snoc {α β γ : Type} {xs : List α} {ys : List β} {i : Nat} {x : α} {y : β} (f : α × β → γ) (h : xs[i]? = some x) (h2 : ys[i]? = some y) : ((xs.zip ys).take (i + 1)).map f = ((xs.zip ys).take i).map f ++ [f (x, y)] := by
  have : (xs.zip ys)[i]? = some (x, y) := by
    rw [List.getElem?_zip_eq_some]; exact ⟨h, h2⟩
  rw [snocs this, List.map_append]; rfl
theorem fn_tolls_of_worths {Z : Wd} {f : Addr} {fd : FuncData} (T : Std Z) (c1 : Cst Z "TOLL_BOUND" 1000000000000) (F1 : Fn Z 4 "check_joins" ["joins"] (spCheckJoins Z)) (F2 : FnK Z 2 "is_between" ["value", "low", "high"] 1 ["low", "high"] (spBetween Z))
    (F : Fun Z.K "tolls_of_worths" "tolls_of_worths" s_tolls_of_worths f fd) : FnG Z 5 f fd ["joins", "worths"] (spTolls Z) := by
  refine fnG_of F sc_tolls_of_worths ok_tolls_of_worths (fun vs H Q E h => ?_) (fun X H vs Q E B R h => ?_)
  · obtain ⟨I, v, w, J, ws, n, rfl, _⟩ := h; rfl
  · obtain ⟨I, v, w, J, ws, n, rfl, s, hj, hw, hJ, hwl, hwv, q⟩ := h
    have hr := R.room
    obtain ⟨a, xs, rfl, hsq, hds⟩ := hj.list_inv
    obtain ⟨b, rfl, hsq2⟩ := dI_inv hw
    have hl : ((J.map dI).length : Int) = n := by rw [List.length_map, hJ.1.1]
    have hxl : xs.length = n := by have := hds.len; rw [List.length_map] at this; have := hJ.1.1; omega
    refine wst (σ' := some (.ref a) :: some (.ref b) :: z_tolls_of_worths) rfl (wss_cons ?_)
    repeat walk_at "y"
    refine ⟨I, _, J, n, rfl, s, hj, hJ, fun H1 g1 => ?_⟩
    repeat walk_at "y"
    refine iteF ?_
    repeat walk_at "y"
    refine co_len B g1.sub (.inl hw) ?_
    repeat walk_at "y"
    refine co_len B g1.sub (.inl hj) ?_
    repeat walk_at "y"
    refine ifnd (fun h => absurd (by rw [List.length_map, List.length_map]; have := hJ.1.1; omega) h) (fun _ => ?_)
    repeat walk_at "y"
    refine ws_for B R.po (wi_enum B (by walk_at "mem") T.enumerate ?_)
    repeat walk_at "y"
    refine ⟨b, _, rfl, B.sqL (g1.sub.seq hsq2), fi_enum (fun i r σ H' => ∃ u1 u2 ns, σ = [some (.ref a), some (.ref b), u1, u2, none, none, none, none, none] ∧ Gr [] I H I H' ∧ r = ns.map V.int ∧ ∀ x ∈ ns, -99999999999 ≤ x ∧ x ≤ 99999999999)
      ⟨_, _, ws, rfl, g1, rfl, hwv⟩ (fun i r σ H' ⟨_, _, _, _, g, _⟩ => B.sqL (g.sub.seq hsq2)) ?_ ?_⟩
    · rintro i x r σ H2 t ⟨u1, u2, ns, rfl, g2, e, hns⟩ ht
      cases ns with
      | nil => cases e
      | cons z ns =>
        cases e
        have g3 : Gr [] I H I (upd H2 t (.tup [.int (i : Nat), .int z])) := g2.tmp ht
        refine wg_pair B upd_same (by walk_at "up") (by walk_at "up") ?_
        repeat walk_at "y"
        refine bo_div (by decide) (by decide) ?_
        repeat walk_at "y"
        refine bo_div (by decide) (by decide) ?_
        repeat walk_at "y"
        refine ⟨rfl, rfl, spBetween_i g3.sub (.int z) ?_⟩
        have hz := hns z (by simp)
        have e : btw (.int z) (1 - 1000000000000 / 10) (1000000000000 / 10 - 1) = true := by
          simp only [btw, Bool.and_eq_true, decide_eq_true_eq]; omega
        rw [e]
        repeat walk_at "y"
        refine iteF ?_
        repeat walk_at "y"
        exact ⟨_, _, ns, rfl, g3, rfl, fun x hx => hns x (by simp [hx])⟩
    · rintro i σ H2 ⟨u1, u2, ns, rfl, g2, _, _⟩
      repeat walk_at "y"
      refine ⟨by decide +kernel, fun D hD => ?_⟩
      repeat walk_at "y"
      refine ws_for B R.po (wi_zs B (by walk_at "mem") T.zip ?_)
      repeat walk_at "y"
      have ms := ms_start (Z := Z) (S := []) (R := fun i ds _ _ => ds = ((ws.zip J).take i).map fun p => dI (tollRow ws p.1 p.2)) stab_nil g2.sub (by simp) rfl hD
      have hIs : Same I (upd H2 D (.lst [])) := fun q u e => by rw [upd_ne (ne_none (g2.sub _ _ e) hD)]; exact g2.sub _ _ e
      refine ⟨b, a, ws.map V.int, xs, rfl, rfl, rfl, B.sqL (hIs.seq hsq2), B.sqL (hIs.seq hsq), fi_zs (xs := ws.map V.int) (ys := xs) (by rw [List.length_map]; omega)
        (fun r r' σ H' => ∃ i acc w1 w2, i ≤ n ∧ r = (ws.map V.int).drop i ∧ r' = xs.drop i ∧ σ = [some (.ref a), some (.ref b), u1, u2, some (.ref D), w1, w2, none, none] ∧ MapSt Z [] I H2 (fun i ds _ _ => ds = ((ws.zip J).take i).map fun p => dI (tollRow ws p.1 p.2)) i D acc H')
        ⟨0, [], _, _, Nat.zero_le _, rfl, rfl, rfl, ms⟩ (fun r r' σ H' ⟨i, acc, w1, w2, _, _, _, _, m⟩ => ?_) ?_ ?_⟩
      · obtain ⟨I1, ds, g, _⟩ := m.ex
        exact ⟨B.sqL ((g.ii.trans g.sub).seq hsq2), B.sqL ((g.ii.trans g.sub).seq hsq)⟩
      · rintro x r y r' σ H3 t ⟨i, acc, w1, w2, hi, er, er', rfl, m⟩ ht
        have hin : i < n := Nat.lt_of_not_le fun h => by rw [List.drop_eq_nil_of_le (by rw [List.length_map]; omega)] at er; cases er
        rw [List.drop_eq_getElem_cons (by rw [List.length_map]; omega)] at er
        rw [List.drop_eq_getElem_cons (by omega)] at er'
        injection er with ex er
        injection er' with ey er'
        obtain ⟨z, hz, hzi⟩ := ints_get (ns := ws) (i := i) (y := x) (by rw [ex]; exact List.getElem?_eq_getElem _)
        obtain ⟨d, hd1, hd2⟩ := hds.get' (i := i) (v := y) (by rw [ey]; exact List.getElem?_eq_getElem _)
        obtain ⟨row, hrow, rfl⟩ : ∃ row, J[i]? = some row ∧ d = dI row := by
          rw [List.getElem?_map] at hd1
          cases e : J[i]? with
          | none => rw [e] at hd1; cases hd1
          | some row => rw [e] at hd1; cases hd1; exact ⟨row, rfl, rfl⟩
        subst hz
        obtain ⟨c, rfl, hc⟩ := dI_inv hd2
        have m1 := m.tmp (o := .tup [.int z, .ref c]) stab_nil (by simp) ht
        generalize hH4 : upd H3 t (.tup [.int z, .ref c]) = H4 at m1 ⊢
        refine wg_pair B (by rw [← hH4]; exact upd_same) (by walk_at "up") (by walk_at "up") ?_
        refine wss_cons (ws_expr (we_append ?_))
        repeat walk_at "y"
        refine ⟨D, acc, rfl, m1.at_, ?_⟩
        obtain ⟨I1, ds, g1', hI1, hdd, hds1⟩ := m1.ex
        have hrv := hJ.1.2 row (List.mem_of_getElem? hrow)
        refine we_lc (own := oc0_tolls_of_worths) B (by decide +kernel) (wi_zs B (by walk_at "mem") T.zip ?_)
        repeat walk_at "y"
        refine ⟨b, c, _, _, rfl, rfl, rfl, B.sqL ((g1'.ii.trans g1'.sub).seq hsq2), B.sqL ((g1'.ii.trans g1'.sub).seq hc), ?_⟩
        refine li_mapZs (S := []) (M' := mc0_tolls_of_worths) (G' := gc0_tolls_of_worths) (I0 := I1) (xs := ws.map V.int) (ys := row.map V.int) (σ0 := [some (.ref a), some (.ref b), u1, u2, some (.ref D), some (.int z), some (.ref c), none, none])
          (fun j es _ _ => es = ((ws.zip row).take j).map fun q => PyData.int (z + q.1 - wAt ws q.2)) B (by decide +kernel) g1'.sub (by simp) stab_nil (B.sqL (g1'.ii.seq hsq2)) (B.sqL (g1'.ii.seq hc)) (by rw [List.length_map, List.length_map, hrv.1, hwl]) (by rw [List.length_map]; have := hJ.2.2; omega) rfl rfl (fun j x y hx hy => ?_) (fun v I2 I3 es H5 hes _ g3 hv => ?_)
        · obtain ⟨x, rfl, hxj⟩ := ints_get hx
          obtain ⟨k, rfl, hkj⟩ := ints_get hy
          refine ⟨_, _, by walk_at "up", by walk_at "up", rfl, fun es I2 H5 g3 hes X' hA B' => ?_⟩
          have hk := hrv.2 k (List.mem_of_getElem? hkj)
          have hkl : (k - 1).toNat < ws.length := by omega
          repeat walk_at "y"
          refine io_L B' (g1'.ii.trans (g3.ii.trans g3.sub)) hw (atI_nn (by omega) (by rw [List.getElem?_map, List.getElem?_eq_getElem hkl]; rfl)) fun u hu => ?_
          cases hu
          repeat walk_at "y"
          refine ⟨I2, _, .refl g3.sub, .int _, ?_⟩
          rw [hes, take_zip_snoc _ hxj hkj]
          have e : wAt ws k = ws[(k - 1).toNat] := by unfold wAt; rw [List.getD_eq_getElem?_getD, List.getElem?_eq_getElem hkl]; rfl
          rw [← e]
        · have hv' : Dp Z.K I3 v (dI (tollRow ws z row)) := by
            rw [hes, List.length_map, List.take_of_length_le (by rw [List.length_zip]; omega)] at hv
            unfold tollRow dI; rw [List.map_map]; exact hv
          obtain ⟨hD2, m2⟩ := m1.next stab_nil g1' hI1 hdd g3 hv' (by
            show _ = _
            rw [hds1, take_zip_snoc (fun p : Int × List Int => dI (tollRow ws p.1 p.2)) hzi hrow])
          refine ⟨acc, hD2, by have := m1.len; have := hJ.2.2; omega, ?_⟩
          repeat walk_at "y"
          exact ⟨i + 1, _, _, _, hin, er, er', rfl, m2⟩
      · rintro σ H3 ⟨i, acc, w1, w2, hi, er, er', rfl, m⟩
        have hin : i = n := by
          have : ((ws.map V.int).drop i).length = 0 := by rw [← er]; rfl
          rw [List.length_drop, List.length_map] at this; omega
        subst hin
        obtain ⟨I1, I2, ds, hds2, s2, g2', hv, _⟩ := ms_end m
        repeat walk_at "y"
        refine q _ I2 H3 (g2.trans g2') ?_
        have e : ds = (tollsOf J ws).map dI := by
          rw [hds2, List.take_of_length_le (by rw [List.length_zip]; have := hJ.1.1; omega)]
          unfold tollsOf; rw [List.map_map]; rfl
        rw [e] at hv; exact hv
end Y

namespace Y
open PySem PySem.Spec PyProof.Rows L2
/-- membership, slots -/
local macro_rules | `(tactic| walk_at "mem") => `(tactic| (repeat (first | with_reducible exact List.mem_cons_self | with_reducible apply List.mem_cons_of_mem)))
local macro_rules | `(tactic| walk_at "at") => `(tactic| (repeat (first | with_reducible exact At2.z | with_reducible apply At2.s)))
local macro_rules | `(tactic| walk_at "up") => `(tactic| (repeat (first | with_reducible exact Up2.z | with_reducible apply Up2.s)))
local macro_rules | `(tactic| walk_at "upf") => `(tactic| (intro _; (repeat (first | with_reducible exact Up2.z | with_reducible apply Up2.s))))
local macro_rules | `(tactic| walk_at "sub") => `(tactic| (with_reducible first | assumption | exact Gr.sub (by assumption)))
/-- one step -/
local macro_rules | `(tactic| walk_at "y") => `(tactic| (with_reducible first
  | refine wss_cons ?_ | refine we_cst (by assumption) (by walk_at "mem") (by with_reducible assumption) ?_ | refine we_var (by assumption) (by walk_at "at") ?_ | refine we_int ?_ | refine we_negC ?_ | refine we_bl ?_ | refine we_non ?_ | refine we_str ?_
  | refine wa_cons ?_ | refine wa_nil ?_ | refine wk_cons ?_ | refine wk_nil ?_
  | refine we_ty (by assumption) (by walk_at "mem") (Std.int (by assumption)) b_int ?_ | refine we_ty (by assumption) (by walk_at "mem") (Std.bool (by assumption)) b_bool ?_
  | refine we_ty (by assumption) (by walk_at "mem") (Std.list (by assumption)) b_list ?_ | refine we_ty (by assumption) (by walk_at "mem") (Std.tuple (by assumption)) b_tuple ?_ | refine we_ty (by assumption) (by walk_at "mem") (Std.str (by assumption)) b_str ?_
  | refine we_bin ?_ | refine bo_add ?_ | refine bo_sub ?_ | refine bo_lt ?_ | refine bo_le ?_ | refine bo_gt ?_ | refine bo_ge ?_ | refine bo_eqI ?_ | refine bo_neI ?_ | refine bo_eqS ?_ | refine bo_neS ?_ | refine bo_eqB ?_ | refine bo_neB ?_ | refine bo_isN ?_ | refine bo_notN ?_
  | refine we_cmp ?_ | refine we_and ?_ | refine we_or ?_ | refine we_one ?_ | refine we_not ?_ | refine we_if ?_ | refine we_chain ?_
  | refine wt_cmp ?_ | refine wt_not ?_ | refine wt_bool ?_ | refine ww_and ?_ | refine ww_or ?_ | refine ww_and1 ?_ | refine ww_or1 ?_ | refine wt_chain ?_
  | refine we_callB (by assumption) (by walk_at "mem") (Std.isinstance (by assumption)) b_isinstance ?_ | refine we_callB (by assumption) (by walk_at "mem") (Std.len (by assumption)) b_len ?_
  | refine we_callTy (by assumption) (by walk_at "mem") (Std.int (by assumption)) b_int ?_
  | refine isi_int (by assumption) (by walk_at "sub") (by assumption) ?_ | refine isi_bool (by assumption) (by walk_at "sub") (by assumption) ?_ | refine isi_list (by assumption) (by walk_at "sub") (by assumption) ?_ | refine isi_tup (by assumption) (by walk_at "sub") (by assumption) ?_ | refine isi_str (by assumption) (by walk_at "sub") (by assumption) ?_
  | refine co_int ?_ | refine co_intB ?_
  | refine we_tup ?_ | refine we_lst ?_ | refine we_ix ?_ | refine we_slice ?_ | refine wo_none ?_ | refine wo_some ?_
  | refine ws_set (by assumption) ?_ | refine ws_ret ?_ | refine ws_if ?_ | refine ws_expr ?_ | refine ws_retN ?_ | refine ws_pass ?_ | refine ws_break ?_ | refine ws_cont ?_ | refine wss_nil ?_
  | refine iteT ?_ | refine iteF ?_ | refine exb ?_ | refine exi ?_ | refine exv ?_ | refine exu (by walk_at "up") ?_ | refine wt_call ?_
  | refine we_callK (by assumption) (by with_reducible assumption) (room_le (by assumption) (by decide)) passZ (by walk_at "mem") ?_
  | refine we_call (by assumption) (by with_reducible assumption) (room_le (by assumption) (by decide)) passZ (by walk_at "mem") ?_))

/-! ### rows and orders -/
def Rok (row : List Int) (n : Nat) : Prop := 1 ≤ row.length ∧ row.length ≤ 8 ∧ ∀ k ∈ row, 1 ≤ k ∧ k ≤ (n : Int)
/-- an order of a row of m items -/
inductive Ook : List Int → Nat → Prop
  | nil : Ook [] 1
  | cons {a : Int} {o : List Int} {m : Nat} : 0 ≤ a → a < m → Ook o m → Ook (a :: o) (m + 1)
theorem Ook.len : ∀ {o : List Int} {m : Nat}, Ook o m → o.length + 1 = m
  | _, _, .nil => rfl
  | _, _, .cons _ _ h => by rw [List.length_cons, h.len]
def spCheckRow (Z : Wd) (C : Addr) : Sp := fun vs H Q _ => ∃ I t v J T row n, vs = [.ref t, v] ∧ Same I H ∧ TabAt Z C I t J T ∧ Jok J n ∧ Dp Z.K I v (dI row) ∧ Rok row n ∧ ∀ H', Gr [] I H I H' → Q .non H'
theorem fn_check_row {Z : Wd} {f C : Addr} {fd : FuncData} (T : Std Z) (K : TabC Z C) (c1 : Cst Z "MOST_ITEMS" 8) (F2 : FnK Z 2 "is_between" ["value", "low", "high"] 1 ["low", "high"] (spBetween Z)) (M1 : Mth Z 1 C "count" ["self"] (spCount Z C))
    (F : Fun Z.K "check_row" "check_row" s_check_row f fd) : FnG Z 3 f fd ["table", "row"] (spCheckRow Z C) := by
  refine fnG_of F sc_check_row ok_check_row (fun vs H Q E h => ?_) (fun X H vs Q E B R h => ?_)
  · obtain ⟨I, t, v, J, T, row, n, rfl, _⟩ := h; rfl
  · obtain ⟨I, t, v, J, T', row, n, rfl, s, ht, hJ, hrow, ⟨hr1, hr2, hrv⟩, q⟩ := h
    have hr := R.room
    obtain ⟨b, rfl, hsq2⟩ := dI_inv hrow
    obtain ⟨dx, r, p, ht1, ht2, ht3⟩ := id ht
    refine wst (σ' := some (.ref t) :: some (.ref b) :: z_check_row) rfl (wss_cons ?_)
    repeat walk_at "y"
    refine iteF ?_
    repeat walk_at "y"
    refine co_len B s (.inl hrow) ?_
    rw [List.length_map]
    repeat walk_at "y"
    refine ifd (fun _ => ?_) (fun h => absurd (by omega) h)
    repeat walk_at "y"
    refine ifnd (fun h => absurd (by omega) h) (fun _ => ?_)
    repeat walk_at "y"
    refine ws_for B R.po (wi_enum B (by walk_at "mem") T.enumerate ?_)
    repeat walk_at "y"
    refine ⟨b, _, rfl, B.sqL (s.seq hsq2), fi_enum (fun i r σ H' => ∃ u1 u2 ns, σ = [some (.ref t), some (.ref b), u1, u2] ∧ Gr [] I H I H' ∧ r = ns.map V.int ∧ ∀ x ∈ ns, 1 ≤ x ∧ x ≤ (n : Int))
      ⟨_, _, row, rfl, .refl s, rfl, hrv⟩ (fun i r σ H' ⟨_, _, _, _, g, _⟩ => B.sqL (g.sub.seq hsq2)) ?_ ?_⟩
    · rintro i x r σ H2 t2 ⟨u1, u2, ns, rfl, g2, e, hns⟩ ht2
      cases ns with
      | nil => cases e
      | cons z ns =>
        cases e
        have g3 : Gr [] I H I (upd H2 t2 (.tup [.int (i : Nat), .int z])) := g2.tmp ht2
        refine wg_pair B upd_same (by walk_at "up") (by walk_at "up") ?_
        repeat walk_at "y"
        refine we_meth0 B M1 (room_le hr (by decide)) passZ ?_
        repeat walk_at "y"
        refine ⟨t, dx, _, rfl, g3.sub _ _ ht1, rfl, I, t, J, T', n, rfl, g3.sub, ht, hJ, ?_⟩
        repeat walk_at "y"
        refine ⟨rfl, rfl, spBetween_i g3.sub (.int z) ?_⟩
        have hz := hns z (by simp)
        have e : btw (.int z) 1 n = true := by simp only [btw, Bool.and_eq_true, decide_eq_true_eq]; omega
        rw [e]
        repeat walk_at "y"
        refine iteF ?_
        repeat walk_at "y"
        exact ⟨_, _, ns, rfl, g3, rfl, fun x hx => hns x (by simp [hx])⟩
    · rintro i σ H2 ⟨u1, u2, ns, rfl, g2, _, _⟩
      repeat walk_at "y"
      exact q _ g2
def spCheckOrder (Z : Wd) : Sp := fun vs H Q _ => ∃ I v o m, vs = [v, .int (m : Nat)] ∧ Same I H ∧ Dp Z.K I v (dI o) ∧ Ook o m ∧ ∀ H', Gr [] I H I H' → Q .non H'
theorem fn_check_order {Z : Wd} {f : Addr} {fd : FuncData} (T : Std Z) (F2 : FnK Z 2 "is_between" ["value", "low", "high"] 1 ["low", "high"] (spBetween Z))
    (F : Fun Z.K "check_order" "check_order" s_check_order f fd) : FnG Z 3 f fd ["order", "size"] (spCheckOrder Z) := by
  refine fnG_of F sc_check_order ok_check_order (fun vs H Q E h => ?_) (fun X H vs Q E B R h => ?_)
  · obtain ⟨I, v, o, m, rfl, _⟩ := h; rfl
  · obtain ⟨I, v, o, m, rfl, s, ho, hok, q⟩ := h
    have hr := R.room
    obtain ⟨b, rfl, hsq2⟩ := dI_inv ho
    have hl := hok.len
    refine wst (σ' := some (.ref b) :: some (.int (m : Nat)) :: z_check_order) rfl (wss_cons ?_)
    repeat walk_at "y"
    refine iteF ?_
    repeat walk_at "y"
    refine co_len B s (.inl ho) ?_
    rw [List.length_map]
    repeat walk_at "y"
    refine ifnd (fun h => absurd (by omega) h) (fun _ => ?_)
    repeat walk_at "y"
    refine ws_for B R.po (wi_enum B (by walk_at "mem") T.enumerate ?_)
    repeat walk_at "y"
    refine ⟨b, _, rfl, B.sqL (s.seq hsq2), fi_enum (fun i r σ H' => ∃ u1 u2 ns k, σ = [some (.ref b), some (.int (m : Nat)), u1, u2] ∧ Gr [] I H I H' ∧ r = ns.map V.int ∧ Ook ns k ∧ i + k = m)
      ⟨_, _, o, m, rfl, .refl s, rfl, hok, by omega⟩ (fun i r σ H' ⟨_, _, _, _, _, g, _⟩ => B.sqL (g.sub.seq hsq2)) ?_ ?_⟩
    · rintro i x r σ H2 t2 ⟨u1, u2, ns, k, rfl, g2, e, hns, hk⟩ ht2
      cases hns with
      | nil => cases e
      | @cons z ns k h1 h2 h3 =>
        cases e
        have g3 : Gr [] I H I (upd H2 t2 (.tup [.int (i : Nat), .int z])) := g2.tmp ht2
        refine wg_pair B upd_same (by walk_at "up") (by walk_at "up") ?_
        repeat walk_at "y"
        refine ⟨rfl, rfl, spBetween_i g3.sub (.int z) ?_⟩
        have e : btw (.int z) 0 ((m : Int) - 2 - (i : Nat)) = true := by
          have := h3.len
          simp only [btw, Bool.and_eq_true, decide_eq_true_eq]; omega
        rw [e]
        repeat walk_at "y"
        refine iteF ?_
        repeat walk_at "y"
        exact ⟨_, _, ns, k, rfl, g3, rfl, h3, by omega⟩
    · rintro i σ H2 ⟨u1, u2, ns, k, rfl, g2, _, _⟩
      repeat walk_at "y"
      exact q _ g2
end Y

namespace Y
open PySem PySem.Spec PyProof.Rows L2
/-- membership, slots -/
local macro_rules | `(tactic| walk_at "mem") => `(tactic| (repeat (first | with_reducible exact List.mem_cons_self | with_reducible apply List.mem_cons_of_mem)))
local macro_rules | `(tactic| walk_at "at") => `(tactic| (repeat (first | with_reducible exact At2.z | with_reducible apply At2.s)))
local macro_rules | `(tactic| walk_at "up") => `(tactic| (repeat (first | with_reducible exact Up2.z | with_reducible apply Up2.s)))
local macro_rules | `(tactic| walk_at "upf") => `(tactic| (intro _; (repeat (first | with_reducible exact Up2.z | with_reducible apply Up2.s))))
local macro_rules | `(tactic| walk_at "sub") => `(tactic| (with_reducible first | assumption | exact Gr.sub (by assumption)))
/-- one step -/
local macro_rules | `(tactic| walk_at "y") => `(tactic| (with_reducible first
  | refine wss_cons ?_ | refine we_cst (by assumption) (by walk_at "mem") (by with_reducible assumption) ?_ | refine we_var (by assumption) (by walk_at "at") ?_ | refine we_int ?_ | refine we_negC ?_ | refine we_bl ?_ | refine we_non ?_ | refine we_str ?_
  | refine wa_cons ?_ | refine wa_nil ?_ | refine wk_cons ?_ | refine wk_nil ?_
  | refine we_ty (by assumption) (by walk_at "mem") (Std.int (by assumption)) b_int ?_ | refine we_ty (by assumption) (by walk_at "mem") (Std.bool (by assumption)) b_bool ?_
  | refine we_ty (by assumption) (by walk_at "mem") (Std.list (by assumption)) b_list ?_ | refine we_ty (by assumption) (by walk_at "mem") (Std.tuple (by assumption)) b_tuple ?_ | refine we_ty (by assumption) (by walk_at "mem") (Std.str (by assumption)) b_str ?_
  | refine we_bin ?_ | refine bo_add ?_ | refine bo_sub ?_ | refine bo_lt ?_ | refine bo_le ?_ | refine bo_gt ?_ | refine bo_ge ?_ | refine bo_eqI ?_ | refine bo_neI ?_ | refine bo_eqS ?_ | refine bo_neS ?_ | refine bo_eqB ?_ | refine bo_neB ?_ | refine bo_isN ?_ | refine bo_notN ?_
  | refine we_cmp ?_ | refine we_and ?_ | refine we_or ?_ | refine we_one ?_ | refine we_not ?_ | refine we_if ?_ | refine we_chain ?_
  | refine wt_cmp ?_ | refine wt_not ?_ | refine wt_bool ?_ | refine ww_and ?_ | refine ww_or ?_ | refine ww_and1 ?_ | refine ww_or1 ?_ | refine wt_chain ?_
  | refine we_callB (by assumption) (by walk_at "mem") (Std.isinstance (by assumption)) b_isinstance ?_ | refine we_callB (by assumption) (by walk_at "mem") (Std.len (by assumption)) b_len ?_
  | refine we_callTy (by assumption) (by walk_at "mem") (Std.int (by assumption)) b_int ?_
  | refine isi_int (by assumption) (by walk_at "sub") (by assumption) ?_ | refine isi_bool (by assumption) (by walk_at "sub") (by assumption) ?_ | refine isi_list (by assumption) (by walk_at "sub") (by assumption) ?_ | refine isi_tup (by assumption) (by walk_at "sub") (by assumption) ?_ | refine isi_str (by assumption) (by walk_at "sub") (by assumption) ?_
  | refine co_int ?_ | refine co_intB ?_
  | refine we_tup ?_ | refine we_lst ?_ | refine we_ix ?_ | refine we_slice ?_ | refine wo_none ?_ | refine wo_some ?_
  | refine ws_set (by assumption) ?_ | refine ws_ret ?_ | refine ws_if ?_ | refine ws_expr ?_ | refine ws_retN ?_ | refine ws_pass ?_ | refine ws_break ?_ | refine ws_cont ?_ | refine wss_nil ?_
  | refine iteT ?_ | refine iteF ?_ | refine exb ?_ | refine exi ?_ | refine exv ?_ | refine exu (by walk_at "up") ?_ | refine wt_call ?_
  | refine we_callK (by assumption) (by with_reducible assumption) (room_le (by assumption) (by decide)) passZ (by walk_at "mem") ?_
  | refine we_call (by assumption) (by with_reducible assumption) (room_le (by assumption) (by decide)) passZ (by walk_at "mem") ?_))

/-! ### steps, result -/
def it (row : List Int) (i : Nat) : Int := row.getD i 0
def stepR (J : List (List Int)) (row : List Int) (a : Int) : List Int := row.take a.toNat ++ [cel J (it row a.toNat) (it row (a.toNat + 1))] ++ row.drop (a.toNat + 2)
def rowsR (J : List (List Int)) : List Int → List Int → List (List Int)
  | row, [] => [row]
  | row, a :: o => row :: rowsR J (stepR J row a) o
def costR (T : List (List Int)) (row : List Int) (a : Int) : Int := cel T (it row a.toNat) (it row (a.toNat + 1))
def totR (J T : List (List Int)) : List Int → List Int → Int
  | _, [] => 0
  | row, a :: o => costR T row a + totR J T (stepR J row a) o
def endR (J : List (List Int)) : List Int → List Int → Int
  | row, [] => it row 0
  | row, a :: o => endR J (stepR J row a) o
theorem it_get {row : List Int} {i : Nat} (h : i < row.length) : row[i]? = some (it row i) := by
  unfold it; rw [List.getD_eq_getElem?_getD, List.getElem?_eq_getElem h]; rfl
theorem it_mem {row : List Int} {i : Nat} (h : i < row.length) : it row i ∈ row := List.mem_of_getElem? (it_get h)
theorem stepR_len {J : List (List Int)} {row : List Int} {a : Int} (h0 : 0 ≤ a) (h : a + 1 < row.length) : (stepR J row a).length + 1 = row.length := by
  unfold stepR
  simp only [List.length_append, List.length_take, List.length_drop, List.length_cons, List.length_nil]
  omega
theorem stepR_mem {J : List (List Int)} {row : List Int} {a k : Int} {n : Nat} (hJ : Jok J n) (hv : ∀ k ∈ row, 1 ≤ k ∧ k ≤ (n : Int)) (h0 : 0 ≤ a) (h : a + 1 < row.length) (hk : k ∈ stepR J row a) : 1 ≤ k ∧ k ≤ (n : Int) := by
  unfold stepR at hk
  rcases List.mem_append.mp hk with hk | hk
  · rcases List.mem_append.mp hk with hk | hk
    · exact hv k (List.mem_of_mem_take hk)
    · rw [List.mem_singleton] at hk
      subst hk
      have i1 := hv _ (it_mem (row := row) (i := a.toNat) (by omega))
      have i2 := hv _ (it_mem (row := row) (i := a.toNat + 1) (by omega))
      obtain ⟨r, _, _, h5, h6⟩ := hJ.1.cel i1.1 i1.2 i2.1 i2.2
      exact ⟨h5, h6⟩
  · exact hv k (List.mem_of_mem_drop hk)
theorem stepR_ok {J : List (List Int)} {row : List Int} {a : Int} {n : Nat} (hJ : Jok J n) (hr : Rok row n) (h0 : 0 ≤ a) (h : a + 1 < row.length) : Rok (stepR J row a) n := by
  have := stepR_len (J := J) h0 h
  exact ⟨by omega, by have := hr.2.1; omega, fun k hk => stepR_mem hJ hr.2.2 h0 h hk⟩
theorem rowsR_cons (J : List (List Int)) (row o : List Int) : ∃ t, rowsR J row o = row :: t := by cases o <;> exact ⟨_, rfl⟩
theorem atI_last {α : Type} {xs : List α} {k : Nat} {y : α} (hl : xs.length = k + 1) (h : xs[k]? = some y) : atI xs (-1) = some y := by
  refine atI_of (j := k) ?_ h
  unfold ixN
  rw [if_neg (by decide), if_pos (by omega), hl]
  congr 1
  omega
theorem rowsR_len (J : List (List Int)) : ∀ (row o : List Int), (rowsR J row o).length = o.length + 1
  | _, [] => rfl
  | row, a :: o => by show (row :: rowsR J (stepR J row a) o).length = _; rw [List.length_cons, rowsR_len J _ o, List.length_cons]
theorem Gr.sub' {S : List Addr} {I H H' : Hp} (g : Gr S I H I H') (h : ∀ p ∈ S, H p = none := by simp) : Same H H' := fun p o e => g.keep p o e fun z => by rw [h p z] at e; cases e
theorem cut_to (xs : List V) (k : Nat) : cutV xs none (some (k : Int)) = xs.take k := by
  unfold cutV; rw [HT.sIx_none, HT.sIx_nat]; simp only [List.drop_zero, Nat.sub_zero]
  rcases Nat.le_total k xs.length with h | h
  · rw [Nat.min_eq_left h]
  · rw [Nat.min_eq_right h, List.take_length, List.take_of_length_le h]
theorem cut_from (xs : List V) (k : Nat) : cutV xs (some (k : Int)) none = xs.drop k := by
  unfold cutV; rw [HT.sIx_none, HT.sIx_nat]
  rcases Nat.le_total k xs.length with h | h
  · rw [Nat.min_eq_left h, List.take_of_length_le (by rw [List.length_drop]; omega)]
  · rw [Nat.min_eq_right h, List.drop_eq_nil_of_le h, List.drop_eq_nil_of_le (Nat.le_refl _)]; simp
theorem Ook.inv {r : List Int} {m : Nat} (h : Ook r m) : (r = [] ∧ m = 1) ∨ ∃ a o k, r = a :: o ∧ m = k + 1 ∧ 0 ≤ a ∧ a < (k : Int) ∧ Ook o k := by
  cases h with
  | nil => exact .inl ⟨rfl, rfl⟩
  | cons h1 h2 h3 => exact .inr ⟨_, _, _, rfl, rfl, h1, h2, h3⟩
def spSteps (Z : Wd) (C : Addr) : Sp := fun vs H Q _ => ∃ I t v w J T row o n, vs = [.ref t, v, w] ∧ Same I H ∧ TabAt Z C I t J T ∧ Jok J n ∧ Dp Z.K I v (dI row) ∧ Rok row n ∧ Dp Z.K I w (dI o) ∧ Ook o row.length ∧ (∃ lo hi, Sq T n lo hi) ∧ ∀ u I' H', Gr [] I H I' H' → Dp Z.K I' u (dG (rowsR J row o)) → Q u H'
theorem fn_steps {Z : Wd} {f C : Addr} {fd : FuncData} (T : Std Z) (K : TabC Z C) (F1 : Fn Z 3 "check_row" ["table", "row"] (spCheckRow Z C)) (F2 : Fn Z 3 "check_order" ["order", "size"] (spCheckOrder Z)) (M1 : Mth Z 4 C "join" ["self", "left", "right"] (spCell Z C true))
    (F : Fun Z.K "steps" "steps" s_steps f fd) : FnG Z 5 f fd ["table", "row", "order"] (spSteps Z C) := by
  refine fnG_of F sc_steps ok_steps (fun vs H Q E h => ?_) (fun X H vs Q E B R h => ?_)
  · obtain ⟨I, t, v, w, J, T, row, o, n, rfl, _⟩ := h; rfl
  · obtain ⟨I, t, v, w, J, T', row, o, n, rfl, s, ht, hJ, hrow, hrk, ho, hok, ⟨lo, hi, hT⟩, q⟩ := h
    have hr := R.room
    obtain ⟨a, rfl, hsq1⟩ := dI_inv hrow
    obtain ⟨b, rfl, hsq2⟩ := dI_inv ho
    obtain ⟨dx, r, p, ht1, ht2, ht3⟩ := id ht
    refine wst (σ' := some (.ref t) :: some (.ref a) :: some (.ref b) :: z_steps) rfl (wss_cons ?_)
    repeat walk_at "y"
    refine ⟨I, t, _, J, T', row, n, rfl, s, ht, hJ, hrow, hrk, fun H1 g1 => ?_⟩
    repeat walk_at "y"
    refine co_len B g1.sub (.inl hrow) ?_
    rw [List.length_map]
    repeat walk_at "y"
    refine ⟨I, _, o, row.length, rfl, g1.sub, ho, hok, fun H2 g2 => ?_⟩
    have g12 := g1.trans g2
    repeat walk_at "y"
    refine we_callTy B (by walk_at "mem") T.list b_list (wa_cons ?_)
    repeat walk_at "y"
    refine co_list B g12.sub (.inl hrow) fun l us hl hus => ?_
    have g3 := (Gr.refl g12.sub (S := [])).new (o := .lst us) hl
    have hrow' : Dp Z.K (upd I l (.lst us)) (.ref l) (dI row) := dL_of upd_same (dps_mono (same_upd g12.sub hl) hus)
    generalize upd I l (.lst us) = I3 at g3 hrow'
    generalize upd H2 l (.lst us) = H3 at g3 ⊢
    repeat walk_at "y"
    refine ⟨le_line (by decide : (1 : Nat) ≤ 16777216), fun D hD => ?_⟩
    have hD2 : H2 D = none := g3.dom D hD
    have hDI : I3 D = none := by
      cases e : I3 D with
      | none => rfl
      | some u => have := g3.sub _ _ e; rw [hD] at this; cases this
    obtain ⟨tl, htl⟩ := rowsR_cons J row o
    have ms : MapSt Z [] I H2 (fun i ds _ _ => ds = ((rowsR J row o).take i).map dI) 1 D [.ref l] (upd H3 D (.lst [.ref l])) :=
      ⟨⟨I3, [dI row], g3.tmp hD, hDI, .cons hrow' .nil, by rw [htl]; rfl⟩, hD2, by simp, upd_same, Nat.le_refl _⟩
    repeat walk_at "y"
    have hIs : Same I (upd H3 D (.lst [.ref l])) := fun q u e => by have := g3.sub _ _ (g3.ii _ _ e); rw [upd_ne (ne_none this hD)]; exact this
    refine ws_for B R.po (wi_list ?_)
    repeat walk_at "y"
    refine ⟨b, rfl, ⟨_, B.sqL (hIs.seq hsq2)⟩, fi_list (xs := o.map V.int) (fun r σ H' => ∃ u1 u2 rest cur pre acc, σ = [some (.ref t), some (.ref a), some (.ref b), some (.ref D), u1, u2] ∧ r = rest.map V.int ∧ Ook rest cur.length ∧ Rok cur n ∧ rowsR J row o = pre ++ rowsR J cur rest ∧
      MapSt Z [] I H2 (fun i ds _ _ => ds = ((rowsR J row o).take i).map dI) (pre.length + 1) D acc H') ⟨_, _, o, row, [], _, rfl, rfl, hok, hrk, rfl, ms⟩ (fun r σ H' ⟨_, _, _, _, _, _, _, _, _, _, _, m⟩ => ?_) ?_ ?_⟩
    · obtain ⟨I1, ds, g, _⟩ := m.ex
      exact B.sqL ((g.ii.trans g.sub).seq hsq2)
    · rintro x r σ H4 ⟨u1, u2, rest, cur, pre, acc, rfl, er, hor, hcur, hrows, m⟩
      obtain ⟨rfl, _⟩ | ⟨z, rest, k, rfl, hk, h1, h2, h3⟩ := hor.inv
      · cases er
      · cases er
        refine wg_name B (by walk_at "up") (wss_cons ?_)
        obtain ⟨I1, ds, g, hI1, hdd, hds⟩ := m.ex
        have hpt : (rowsR J row o).take (pre.length + 1) = pre ++ [cur] := by
          obtain ⟨tl, h⟩ := rowsR_cons J cur (z :: rest)
          rw [hrows, h, List.take_append, List.take_of_length_le (by omega)]
          simp
        have hds' : ds = (pre ++ [cur]).map dI := by rw [← hpt]; exact hds
        have hal : acc.length = pre.length + 1 := by have := hdd.len; rw [hds', List.length_map, List.length_append] at this; exact this
        obtain ⟨y, hy1, hy2⟩ := hdd.get (i := pre.length) (d := dI cur) (by rw [hds', List.getElem?_map]; simp)
        have hst := stepR_ok hJ hcur h1 (by omega)
        have hstl := stepR_len (J := J) (row := cur) h1 (by omega)
        have c1 := hcur.2.2 _ (it_mem (row := cur) (i := z.toNat) (by omega))
        have c2 := hcur.2.2 _ (it_mem (row := cur) (i := z.toNat + 1) (by omega))
        obtain ⟨c, rfl, hc⟩ := dI_inv hy2
        have hz0 : z = ((z.toNat : Nat) : Int) := by omega
        refine ws_set B ?_
        refine we_ix ?_ (by with_unfolding_all exact fun _ _ => rfl)
        repeat walk_at "y"
        refine io_lst m.at_ (atI_last hal hy1) ?_
        repeat walk_at "y"
        refine we_append ?_
        repeat walk_at "y"
        refine ⟨D, acc, rfl, m.at_, ?_⟩
        have sI := g.sub
        refine we_bin (we_bin ?_)
        repeat walk_at "y"
        refine so_L B sI hy2 fun p1 xs1 hp1 hx1 => ?_
        have hxs1 := hx1.ints
        subst hxs1
        have g4 := (Gr.refl sI (S := [])).tmp (o := .lst (cutV (cur.map V.int) none (some z))) hp1
        refine we_lst ?_
        repeat walk_at "y"
        refine we_meth B M1 (room_le hr (by decide)) passZ ?_
        repeat walk_at "y"
        refine ⟨t, dx, _, rfl, (g.ii.trans g4.sub) _ _ ht1, rfl, ?_⟩
        repeat walk_at "y"
        refine io_L B (sI.trans g4.sub') hy2 (atI_nn h1 (by rw [List.getElem?_map, it_get (by omega)]; rfl)) fun v1 hv1 => ?_
        cases hv1
        repeat walk_at "y"
        have hc8 := hcur.2.1
        have hz1 : (z + 1).toNat = z.toNat + 1 := by omega
        refine io_L B (sI.trans g4.sub') hy2 (atI_nn (by omega) (by rw [List.getElem?_map, hz1, it_get (by omega)]; rfl)) fun v1 hv1 => ?_
        cases hv1
        repeat walk_at "y"
        refine ⟨I1, t, J, T', n, _, _, lo, hi, rfl, g4.sub, tab_mono g.ii ht, hJ, hT, c1.1, c1.2, c2.1, c2.2, ?_⟩
        refine wa_nil ⟨le_line (by decide : (1 : Nat) ≤ 16777216), fun p2 hp2 => ?_⟩
        have g5 := g4.tmp (o := .lst [.int (cel J (it cur z.toNat) (it cur (z.toNat + 1)))]) hp2
        have e1 := cut_to (cur.map V.int) z.toNat
        rw [← hz0] at e1
        have e2 := cut_from (cur.map V.int) (z.toNat + 2)
        have hz2 : ((z.toNat + 2 : Nat) : Int) = z + 2 := by omega
        rw [hz2] at e2
        refine bo_cat (by rw [upd_ne (ne_none upd_same hp2)]; exact upd_same) upd_same (by rw [e1]; simp only [List.length_take, List.length_map, List.length_cons, List.length_nil]; omega) fun p3 hp3 => ?_
        have g6 := g5.tmp (o := .lst (cutV (cur.map V.int) none (some z) ++ [.int (cel J (it cur z.toNat) (it cur (z.toNat + 1)))])) hp3
        repeat walk_at "y"
        refine so_L B g6.sub hy2 fun p4 xs4 hp4 hx4 => ?_
        have hxs4 := hx4.ints
        subst hxs4
        have g7 := g6.tmp (o := .lst (cutV (cur.map V.int) (some (z + 2)) none)) hp4
        refine bo_cat (by rw [upd_ne (ne_none upd_same hp4)]; exact upd_same) upd_same (by rw [e1, e2]; simp only [List.length_append, List.length_take, List.length_drop, List.length_map, List.length_cons, List.length_nil]; omega) fun p5 hp5 => ?_
        have g8 := g7.new (o := .lst (cutV (cur.map V.int) none (some z) ++ [.int (cel J (it cur z.toNat) (it cur (z.toNat + 1)))] ++ cutV (cur.map V.int) (some (z + 2)) none)) hp5
        have hres : Dp Z.K (upd I1 p5 (.lst (cutV (cur.map V.int) none (some z) ++ [.int (cel J (it cur z.toNat) (it cur (z.toNat + 1)))] ++ cutV (cur.map V.int) (some (z + 2)) none))) (.ref p5) (dI (stepR J cur z)) := by
          refine dI_of ?_
          rw [upd_same, e1, e2]
          unfold stepR
          rw [List.map_append, List.map_append, List.map_take, List.map_drop]; rfl
        obtain ⟨hD3, m2⟩ := m.next stab_nil g hI1 hdd g8 hres (by
          show _ = _
          rw [hds, hpt]
          have : (rowsR J row o).take (pre.length + 1 + 1) = pre ++ [cur] ++ [stepR J cur z] := by
            obtain ⟨tl, h⟩ := rowsR_cons J (stepR J cur z) rest
            have h2 : rowsR J row o = (pre ++ [cur]) ++ stepR J cur z :: tl := by rw [hrows]; show pre ++ cur :: rowsR J (stepR J cur z) rest = _; rw [h]; simp
            rw [h2, List.take_append, List.take_of_length_le (by simp)]
            simp
          rw [this, List.map_append (l₂ := [stepR J cur z])]; rfl)
        refine ⟨acc, hD3, by have := hcur.2.1; have := hrk.2.1; have := hok.len; have := rowsR_len J row o; rw [hrows, List.length_append] at this; omega, ?_⟩
        repeat walk_at "y"
        refine ⟨_, _, rest, stepR J cur z, pre ++ [cur], acc ++ [.ref p5], rfl, rfl, by rw [show (stepR J cur z).length = k from by omega]; exact h3, hst, by rw [hrows]; show pre ++ cur :: rowsR J (stepR J cur z) rest = _; simp, ?_⟩
        rw [List.length_append]; exact m2
    · rintro σ H4 ⟨u1, u2, rest, cur, pre, acc, rfl, er, hor, hcur, hrows, m⟩
      obtain ⟨rfl, _⟩ | ⟨z, rest, k, rfl, hk, h1, h2, h3⟩ := hor.inv
      case inr => cases er
      obtain ⟨I1, I2, ds, hds2, s2, g2', hv, _⟩ := ms_end m
      repeat walk_at "y"
      refine q _ I2 H4 (g12.trans g2') ?_
      have e : ds = (rowsR J row o).map dI := by
        rw [hds2, List.take_of_length_le (by rw [hrows, List.length_append]; exact Nat.le_refl _)]
      rw [e] at hv; exact hv
end Y

namespace Y
open PySem PySem.Spec PyProof.Rows L2
/-- membership, slots -/
local macro_rules | `(tactic| walk_at "mem") => `(tactic| (repeat (first | with_reducible exact List.mem_cons_self | with_reducible apply List.mem_cons_of_mem)))
local macro_rules | `(tactic| walk_at "at") => `(tactic| (repeat (first | with_reducible exact At2.z | with_reducible apply At2.s)))
local macro_rules | `(tactic| walk_at "up") => `(tactic| (repeat (first | with_reducible exact Up2.z | with_reducible apply Up2.s)))
local macro_rules | `(tactic| walk_at "upf") => `(tactic| (intro _; (repeat (first | with_reducible exact Up2.z | with_reducible apply Up2.s))))
local macro_rules | `(tactic| walk_at "sub") => `(tactic| (with_reducible first | assumption | exact Gr.sub (by assumption)))
/-- one step -/
local macro_rules | `(tactic| walk_at "y") => `(tactic| (with_reducible first
  | refine wss_cons ?_ | refine we_cst (by assumption) (by walk_at "mem") (by with_reducible assumption) ?_ | refine we_var (by assumption) (by walk_at "at") ?_ | refine we_int ?_ | refine we_negC ?_ | refine we_bl ?_ | refine we_non ?_ | refine we_str ?_
  | refine wa_cons ?_ | refine wa_nil ?_ | refine wk_cons ?_ | refine wk_nil ?_
  | refine we_ty (by assumption) (by walk_at "mem") (Std.int (by assumption)) b_int ?_ | refine we_ty (by assumption) (by walk_at "mem") (Std.bool (by assumption)) b_bool ?_
  | refine we_ty (by assumption) (by walk_at "mem") (Std.list (by assumption)) b_list ?_ | refine we_ty (by assumption) (by walk_at "mem") (Std.tuple (by assumption)) b_tuple ?_ | refine we_ty (by assumption) (by walk_at "mem") (Std.str (by assumption)) b_str ?_
  | refine we_bin ?_ | refine bo_add ?_ | refine bo_sub ?_ | refine bo_lt ?_ | refine bo_le ?_ | refine bo_gt ?_ | refine bo_ge ?_ | refine bo_eqI ?_ | refine bo_neI ?_ | refine bo_eqS ?_ | refine bo_neS ?_ | refine bo_eqB ?_ | refine bo_neB ?_ | refine bo_isN ?_ | refine bo_notN ?_
  | refine we_cmp ?_ | refine we_and ?_ | refine we_or ?_ | refine we_one ?_ | refine we_not ?_ | refine we_if ?_ | refine we_chain ?_
  | refine wt_cmp ?_ | refine wt_not ?_ | refine wt_bool ?_ | refine ww_and ?_ | refine ww_or ?_ | refine ww_and1 ?_ | refine ww_or1 ?_ | refine wt_chain ?_
  | refine we_callB (by assumption) (by walk_at "mem") (Std.isinstance (by assumption)) b_isinstance ?_ | refine we_callB (by assumption) (by walk_at "mem") (Std.len (by assumption)) b_len ?_
  | refine we_callTy (by assumption) (by walk_at "mem") (Std.int (by assumption)) b_int ?_
  | refine isi_int (by assumption) (by walk_at "sub") (by assumption) ?_ | refine isi_bool (by assumption) (by walk_at "sub") (by assumption) ?_ | refine isi_list (by assumption) (by walk_at "sub") (by assumption) ?_ | refine isi_tup (by assumption) (by walk_at "sub") (by assumption) ?_ | refine isi_str (by assumption) (by walk_at "sub") (by assumption) ?_
  | refine co_int ?_ | refine co_intB ?_
  | refine we_tup ?_ | refine we_lst ?_ | refine we_ix ?_ | refine we_slice ?_ | refine wo_none ?_ | refine wo_some ?_
  | refine ws_set (by assumption) ?_ | refine ws_ret ?_ | refine ws_if ?_ | refine ws_expr ?_ | refine ws_retN ?_ | refine ws_pass ?_ | refine ws_break ?_ | refine ws_cont ?_ | refine wss_nil ?_
  | refine iteT ?_ | refine iteF ?_ | refine exb ?_ | refine exi ?_ | refine exv ?_ | refine exu (by walk_at "up") ?_ | refine wt_call ?_
  | refine we_callK (by assumption) (by with_reducible assumption) (room_le (by assumption) (by decide)) passZ (by walk_at "mem") ?_
  | refine we_call (by assumption) (by with_reducible assumption) (room_le (by assumption) (by decide)) passZ (by walk_at "mem") ?_))

theorem rowsR_at {J : List (List Int)} {n : Nat} (hJ : Jok J n) : ∀ {o row : List Int} {i : Nat} {r : List Int} {a : Int}, Ook o row.length → Rok row n → (rowsR J row o)[i]? = some r → o[i]? = some a → Rok r n ∧ 0 ≤ a ∧ a + 1 < r.length
  | [], _, i, _, _, _, _, _, h => by simp at h
  | a :: o, row, i, r, a', ho, hr, h1, h2 => by
    obtain ⟨h, _⟩ | ⟨z, rest, k, e, hk, g1, g2, g3⟩ := ho.inv
    · cases h
    · cases e
      cases i with
      | zero =>
        simp [rowsR] at h1 h2
        subst h1 h2
        exact ⟨hr, g1, by omega⟩
      | succ i =>
        have hst := stepR_ok hJ hr g1 (by omega)
        have hl := stepR_len (J := J) (row := row) g1 (by omega)
        exact rowsR_at hJ (o := o) (row := stepR J row a) (i := i) (by rw [show (stepR J row a).length = k from by omega]; exact g3) hst (by simpa [rowsR] using h1) (by simpa using h2)
theorem rowsR_last {J : List (List Int)} {n : Nat} (hJ : Jok J n) : ∀ {o row : List Int}, Ook o row.length → Rok row n → ∃ r, (rowsR J row o)[o.length]? = some r ∧ r[0]? = some (endR J row o) ∧ 1 ≤ endR J row o ∧ endR J row o ≤ (n : Int)
  | [], row, ho, hr => ⟨row, rfl, it_get (by have := hr.1; omega), hr.2.2 _ (it_mem (i := 0) (by have := hr.1; omega))⟩
  | a :: o, row, ho, hr => by
    obtain ⟨h, _⟩ | ⟨z, rest, k, e, hk, g1, g2, g3⟩ := ho.inv
    · cases h
    · cases e
      have hst := stepR_ok hJ hr g1 (by omega)
      have hl := stepR_len (J := J) (row := row) g1 (by omega)
      obtain ⟨r, h1, h2, h3⟩ := rowsR_last hJ (o := o) (row := stepR J row a) (by rw [show (stepR J row a).length = k from by omega]; exact g3) hst
      exact ⟨r, by simpa [rowsR] using h1, h2, h3⟩
def costsR (J T : List (List Int)) (row o : List Int) : List Int := ((rowsR J row o).zip o).map fun p => costR T p.1 p.2
theorem costs_sum (J T : List (List Int)) : ∀ o row : List Int, (costsR J T row o).sum = totR J T row o
  | [], row => rfl
  | a :: o, row => by
    show (costR T row a :: costsR J T (stepR J row a) o).sum = _
    rw [List.sum_cons, costs_sum J T o]; rfl
theorem costs_len (J T : List (List Int)) (o row : List Int) : (costsR J T row o).length = o.length := by
  unfold costsR; rw [List.length_map, List.length_zip, rowsR_len]; omega
def spResult (Z : Wd) (C : Addr) : Sp := fun vs H Q _ => ∃ I t v w J T row o n, vs = [.ref t, v, w] ∧ Same I H ∧ TabAt Z C I t J T ∧ Jok J n ∧ Dp Z.K I v (dI row) ∧ Rok row n ∧ Dp Z.K I w (dI o) ∧ Ook o row.length ∧ (∃ lo hi, Sq T n lo hi) ∧ ∀ u I' H', Gr [] I H I' H' → Dp Z.K I' u (tI [endR J row o, totR J T row o]) → Q u H'
theorem fn_result {Z : Wd} {f C : Addr} {fd : FuncData} (T : Std Z) (K : TabC Z C) (F1 : Fn Z 5 "steps" ["table", "row", "order"] (spSteps Z C)) (M1 : Mth Z 4 C "toll" ["self", "left", "right"] (spCell Z C false))
    (F : Fun Z.K "result" "result" s_result f fd) : FnG Z 6 f fd ["table", "row", "order"] (spResult Z C) := by
  refine fnG_of F sc_result ok_result (fun vs H Q E h => ?_) (fun X H vs Q E B R h => ?_)
  · obtain ⟨I, t, v, w, J, T, row, o, n, rfl, _⟩ := h; rfl
  · obtain ⟨I, t, v, w, J, T', row, o, n, rfl, s, ht, hJ, hrow, hrk, ho, hok, ⟨lo, hi, hT⟩, q⟩ := h
    have hr := R.room
    obtain ⟨b, rfl, hsq2⟩ := dI_inv ho
    obtain ⟨dx, r, p, ht1, ht2, ht3⟩ := id ht
    have hol := hok.len
    have hr8 := hrk.2.1
    refine wst (σ' := some (.ref t) :: some v :: some (.ref b) :: z_result) rfl (wss_cons ?_)
    repeat walk_at "y"
    refine ⟨I, t, _, _, J, T', row, o, n, rfl, s, ht, hJ, hrow, hrk, ho, hok, ⟨lo, hi, hT⟩, fun rv I1 H1 g1 hrv => ?_⟩
    obtain ⟨a, xs, rfl, hsq1, hds⟩ := hrv.list_inv
    repeat walk_at "y"
    refine we_callB B (by walk_at "mem") T.sum b_sum (wa_cons ?_)
    refine we_lc (own := oc0_result) B (by decide +kernel) (wi_zip B (by walk_at "mem") T.zip ?_)
    repeat walk_at "y"
    refine ⟨a, b, xs, _, rfl, rfl, B.sqL (g1.sub.seq hsq1), B.sqL (g1.sub.seq (g1.ii.seq hsq2)), ?_⟩
    have hxl : xs.length = o.length + 1 := by rw [hds.len, List.length_map, rowsR_len]
    refine li_mapZ (S := []) (M' := mc0_result) (G' := gc0_result) (I0 := I1) (xs := xs) (ys := o.map V.int) (σ0 := [some (.ref t), some v, some (.ref b), some (.ref a), none, none, none])
      (fun j es _ _ => es = ((costsR J T' row o).take j).map PyData.int) B (by decide +kernel) g1.sub (by simp) stab_nil (B.sqL hsq1) (B.sqL (g1.ii.seq hsq2)) (by rw [List.length_map]; omega) (by rw [List.length_map]; omega) rfl rfl (fun j x y hx hy => ?_) (fun u I2 I3 es H5 hes _ g3 hv => ?_)
    · obtain ⟨z, rfl, hz⟩ := ints_get hy
      obtain ⟨d, hd1, hd2⟩ := hds.get' hx
      obtain ⟨cur, hcur, rfl⟩ : ∃ row', (rowsR J row o)[j]? = some row' ∧ d = dI row' := by
        rw [List.getElem?_map] at hd1
        cases e : (rowsR J row o)[j]? with
        | none => rw [e] at hd1; cases hd1
        | some row' => rw [e] at hd1; cases hd1; exact ⟨row', rfl, rfl⟩
      obtain ⟨hck, h1, h2⟩ := rowsR_at hJ hok hrk hcur hz
      have c1 := hck.2.2 _ (it_mem (row := cur) (i := z.toNat) (by omega))
      have c2 := hck.2.2 _ (it_mem (row := cur) (i := z.toNat + 1) (by omega))
      have hz1 : (z + 1).toNat = z.toNat + 1 := by omega
      refine ⟨_, _, by walk_at "up", by walk_at "up", rfl, fun es I2 H5 g3 hes X' hA B' => ?_⟩
      have sI := g1.ii.trans (g3.ii.trans g3.sub)
      refine we_meth B' M1 (room_le (by rw [hA]; exact hr) (by decide)) passZ ?_
      repeat walk_at "y"
      refine ⟨t, dx, _, rfl, sI _ _ ht1, rfl, ?_⟩
      repeat walk_at "y"
      refine io_L B' (g3.ii.trans g3.sub) hd2 (atI_nn h1 (by rw [List.getElem?_map, it_get (by omega)]; rfl)) fun v1 hv1 => ?_
      cases hv1
      repeat walk_at "y"
      refine io_L B' (g3.ii.trans g3.sub) hd2 (atI_nn (by omega) (by rw [List.getElem?_map, hz1, it_get (by omega)]; rfl)) fun v1 hv1 => ?_
      cases hv1
      repeat walk_at "y"
      refine ⟨I2, t, J, T', n, _, _, lo, hi, rfl, g3.sub, tab_mono (g1.ii.trans g3.ii) ht, hJ, hT, c1.1, c1.2, c2.1, c2.2, ?_⟩
      refine ⟨I2, _, .refl g3.sub, .int _, ?_⟩
      rw [hes]
      have : (costsR J T' row o)[j]? = some (costR T' cur z) := by
        have hzz : ((rowsR J row o).zip o)[j]? = some (cur, z) := by rw [List.getElem?_zip_eq_some]; exact ⟨hcur, hz⟩
        unfold costsR; rw [List.getElem?_map, hzz]; rfl
      rw [snocs this, List.map_append]; rfl
    · have hv' : Dp Z.K I3 u (dI (costsR J T' row o)) := by
        rw [hes, List.length_map, ← costs_len J T' o row, List.take_length] at hv; exact hv
      refine wa_nil (co_sum B g3.sub hv' ?_)
      rw [costs_sum]
      repeat walk_at "y"
      obtain ⟨last, hl1, hl2, _⟩ := rowsR_last hJ hok hrk
      have s3 := g3.ii.trans g3.sub
      refine io_L B s3 hrv (d := dI last) (atI_last (k := o.length) (by rw [List.length_map, rowsR_len]) (by rw [List.getElem?_map, hl1]; rfl)) fun v1 hv1 => ?_
      repeat walk_at "y"
      refine io_L B s3 hv1 (atI_nn (by decide) (by rw [List.getElem?_map]; show (last[0]?).map _ = _; rw [hl2]; rfl)) fun v2 hv2 => ?_
      cases hv2
      repeat walk_at "y"
      refine ⟨le_line (by decide : (2 : Nat) ≤ 16777216), fun l hl => ?_⟩
      exact q _ _ _ ((g1.trans g3).new hl) (tI_of upd_same)
end Y

namespace Y
open PySem PySem.Spec PyProof.Rows L2
/-- membership, slots -/
local macro_rules | `(tactic| walk_at "mem") => `(tactic| (repeat (first | with_reducible exact List.mem_cons_self | with_reducible apply List.mem_cons_of_mem)))
local macro_rules | `(tactic| walk_at "at") => `(tactic| (repeat (first | with_reducible exact At2.z | with_reducible apply At2.s)))
local macro_rules | `(tactic| walk_at "up") => `(tactic| (repeat (first | with_reducible exact Up2.z | with_reducible apply Up2.s)))
local macro_rules | `(tactic| walk_at "upf") => `(tactic| (intro _; (repeat (first | with_reducible exact Up2.z | with_reducible apply Up2.s))))
local macro_rules | `(tactic| walk_at "sub") => `(tactic| (with_reducible first | assumption | exact Gr.sub (by assumption)))
/-- one step -/
local macro_rules | `(tactic| walk_at "y") => `(tactic| (with_reducible first
  | refine wss_cons ?_ | refine we_cst (by assumption) (by walk_at "mem") (by with_reducible assumption) ?_ | refine we_var (by assumption) (by walk_at "at") ?_ | refine we_int ?_ | refine we_negC ?_ | refine we_bl ?_ | refine we_non ?_ | refine we_str ?_
  | refine wa_cons ?_ | refine wa_nil ?_ | refine wk_cons ?_ | refine wk_nil ?_
  | refine we_ty (by assumption) (by walk_at "mem") (Std.int (by assumption)) b_int ?_ | refine we_ty (by assumption) (by walk_at "mem") (Std.bool (by assumption)) b_bool ?_
  | refine we_ty (by assumption) (by walk_at "mem") (Std.list (by assumption)) b_list ?_ | refine we_ty (by assumption) (by walk_at "mem") (Std.tuple (by assumption)) b_tuple ?_ | refine we_ty (by assumption) (by walk_at "mem") (Std.str (by assumption)) b_str ?_
  | refine we_bin ?_ | refine bo_add ?_ | refine bo_sub ?_ | refine bo_lt ?_ | refine bo_le ?_ | refine bo_gt ?_ | refine bo_ge ?_ | refine bo_eqI ?_ | refine bo_neI ?_ | refine bo_eqS ?_ | refine bo_neS ?_ | refine bo_eqB ?_ | refine bo_neB ?_ | refine bo_isN ?_ | refine bo_notN ?_
  | refine we_cmp ?_ | refine we_and ?_ | refine we_or ?_ | refine we_one ?_ | refine we_not ?_ | refine we_if ?_ | refine we_chain ?_
  | refine wt_cmp ?_ | refine wt_not ?_ | refine wt_bool ?_ | refine ww_and ?_ | refine ww_or ?_ | refine ww_and1 ?_ | refine ww_or1 ?_ | refine wt_chain ?_
  | refine we_callB (by assumption) (by walk_at "mem") (Std.isinstance (by assumption)) b_isinstance ?_ | refine we_callB (by assumption) (by walk_at "mem") (Std.len (by assumption)) b_len ?_
  | refine we_callTy (by assumption) (by walk_at "mem") (Std.int (by assumption)) b_int ?_
  | refine isi_int (by assumption) (by walk_at "sub") (by assumption) ?_ | refine isi_bool (by assumption) (by walk_at "sub") (by assumption) ?_ | refine isi_list (by assumption) (by walk_at "sub") (by assumption) ?_ | refine isi_tup (by assumption) (by walk_at "sub") (by assumption) ?_ | refine isi_str (by assumption) (by walk_at "sub") (by assumption) ?_
  | refine co_int ?_ | refine co_intB ?_
  | refine we_tup ?_ | refine we_lst ?_ | refine we_ix ?_ | refine we_slice ?_ | refine wo_none ?_ | refine wo_some ?_
  | refine ws_set (by assumption) ?_ | refine ws_ret ?_ | refine ws_if ?_ | refine ws_expr ?_ | refine ws_retN ?_ | refine ws_pass ?_ | refine ws_break ?_ | refine ws_cont ?_ | refine wss_nil ?_
  | refine iteT ?_ | refine iteF ?_ | refine exb ?_ | refine exi ?_ | refine exv ?_ | refine exu (by walk_at "up") ?_ | refine wt_call ?_
  | refine we_callK (by assumption) (by with_reducible assumption) (room_le (by assumption) (by decide)) passZ (by walk_at "mem") ?_
  | refine we_call (by assumption) (by with_reducible assumption) (room_le (by assumption) (by decide)) passZ (by walk_at "mem") ?_))

/-! ### trees -/
inductive Tree where
  | lf (i : Int)
  | nd (l r : Tree)
  deriving DecidableEq
def dTr : Tree → PyData
  | .lf i => .int i
  | .nd l r => .tuple [dTr l, dTr r]
def Tree.leaves : Tree → List Int
  | .lf i => [i]
  | .nd l r => l.leaves ++ r.leaves
def Tree.size : Tree → Nat
  | .lf _ => 1
  | .nd l r => l.size + r.size + 1
def Tree.depth : Tree → Nat
  | .lf _ => 0
  | .nd l r => max l.depth r.depth + 1
def orderT : Tree → Int → List Int
  | .lf _, _ => []
  | .nd l r, s => orderT l s ++ orderT r (s + 1) ++ [s]
theorem Tree.leaves_pos : ∀ t : Tree, 1 ≤ t.leaves.length
  | .lf _ => Nat.le_refl _
  | .nd l r => by have := l.leaves_pos; rw [Tree.leaves, List.length_append]; omega
theorem Tree.depth_lt : ∀ t : Tree, t.depth < t.leaves.length
  | .lf _ => Nat.lt_succ_self 0
  | .nd l r => by
    have := l.depth_lt; have := r.depth_lt; have := l.leaves_pos; have := r.leaves_pos
    rw [Tree.leaves, List.length_append, Tree.depth]; omega
theorem orderT_len : ∀ (t : Tree) (s : Int), (orderT t s).length + 1 = t.leaves.length
  | .lf _, _ => rfl
  | .nd l r, s => by
    have := orderT_len l s; have := orderT_len r (s + 1)
    rw [orderT, Tree.leaves, List.length_append, List.length_append, List.length_append, List.length_cons, List.length_nil]; omega
def sizes (ts : List Tree) : Nat := (ts.map Tree.size).sum
/-- the leaves of a pile, the top at the end -/
def pile (ts : List Tree) : List Int := (ts.reverse.map Tree.leaves).flatten
theorem pile_snoc (ts : List Tree) (t : Tree) : pile (ts ++ [t]) = t.leaves ++ pile ts := by unfold pile; simp
theorem pile_pos {ts : List Tree} (h : ts ≠ []) : 1 ≤ (pile ts).length := by
  obtain ⟨ts', t, rfl⟩ : ∃ ts' t, ts = ts' ++ [t] := ⟨ts.dropLast, ts.getLast h, (List.dropLast_concat_getLast h).symm⟩
  rw [pile_snoc, List.length_append]; have := t.leaves_pos; omega
theorem sizes_snoc (ts : List Tree) (t : Tree) : sizes (ts ++ [t]) = sizes ts + t.size := by unfold sizes; simp
theorem len_le_pile (ts : List Tree) : ts.length ≤ (pile ts).length := by
  induction ts with
  | nil => exact Nat.zero_le _
  | cons t ts ih =>
    have e : pile (t :: ts) = pile ts ++ t.leaves := by unfold pile; simp
    rw [e, List.length_append, List.length_cons]; have := t.leaves_pos; omega
theorem dps_append {K : PySem.W.Frag} {I : Hp} {ys : List V} {es : List PyData} : ∀ {xs : List V} {ds : List PyData}, DpAll K I xs ds → DpAll K I ys es → DpAll K I (xs ++ ys) (ds ++ es)
  | _, _, .nil, h => h
  | _, _, .cons a t, h => .cons a (dps_append t h)
theorem dec_non {x : V} (h : x ≠ .non) : decide (x = .non) = false := decide_eq_false h
def spLeaves (Z : Wd) : Sp := fun vs H Q _ => ∃ I v t, vs = [v] ∧ Same I H ∧ Dp Z.K I v (dTr t) ∧ t.leaves.length ≤ 8 ∧ ∀ u I' H', Gr [] I H I' H' → Dp Z.K I' u (dI t.leaves) → Q u H'
theorem dps_split {K : PySem.W.Frag} {I : Hp} {vs : List V} {ds : List PyData} {d : PyData} (h : DpAll K I vs (ds ++ [d])) : ∃ us u, vs = us ++ [u] ∧ DpAll K I us ds ∧ Dp K I u d := by
  induction ds generalizing vs with
  | nil =>
    cases h with
    | cons h t => cases t; exact ⟨[], _, rfl, .nil, h⟩
  | cons e ds ih =>
    cases h with
    | cons h t =>
      obtain ⟨us, u, rfl, h1, h2⟩ := ih t
      exact ⟨_ :: us, u, rfl, .cons h h1, h2⟩
theorem fn_leaves_of {Z : Wd} {f : Addr} {fd : FuncData} (T : Std Z) (c1 : Cst Z "MOST_ITEMS" 8) (F : Fun Z.K "leaves_of" "leaves_of" s_leaves_of f fd) : FnG Z 1 f fd ["tree"] (spLeaves Z) := by
  refine fnG_of F sc_leaves_of ok_leaves_of (fun vs H Q E h => ?_) (fun X H vs Q E B R h => ?_)
  · obtain ⟨I, v, t, rfl, _⟩ := h; rfl
  · obtain ⟨I, v, t, rfl, s, hv, hl, q⟩ := h
    have hr := R.room
    refine wst (σ' := some v :: z_leaves_of) rfl (wss_cons ?_)
    repeat walk_at "y"
    refine ⟨le_line (by decide : (1 : Nat) ≤ 16777216), fun W hW => ?_⟩
    repeat walk_at "y"
    refine ⟨by decide +kernel, fun D hD => ?_⟩
    repeat walk_at "y"
    have hWD : W ≠ D := fun e => by subst e; rw [upd_same] at hD; cases hD
    have hI : ∀ p, H p = none → I p = none := fun p hp => by
      cases e : I p with
      | none => rfl
      | some o => rw [s _ _ e] at hp; cases hp
    have g0 : Gr [] I H I (upd (upd H W (.lst [v])) D (.lst [])) := ((Gr.refl s).tmp hW).tmp hD
    have hDH : H D = none := by rw [upd_ne (Ne.symm hWD)] at hD; exact hD
    refine ws_while R.po (fun m σ H' => ∃ ts us fs u1, m = sizes ts ∧ σ = [some v, some (.ref W), some (.ref D), u1] ∧ Gr [] I H I H' ∧ H' W = some (.lst us) ∧ DpAll Z.K I us (ts.map dTr) ∧ H' D = some (.lst (fs.map V.int)) ∧ t.leaves = fs ++ pile ts)
      ⟨[t], _, [], _, rfl, rfl, g0, by rw [upd_ne hWD]; exact upd_same, .cons hv .nil, upd_same, by show _ = t.leaves ++ []; simp⟩ ?_
    rintro m σ H1 ⟨ts, us, fs, u1, rfl, rfl, g, hWus, hus, hDfs, hlv⟩
    refine wt_bool (ww_and (wt_truth (we_var B (by walk_at "at") ⟨!us.isEmpty, (show TruV X.K (.ref W) H1 (!us.isEmpty) from Or.inl ⟨us, Or.inl (Or.inl hWus), rfl⟩), ?_⟩)))
    have hul := hus.len
    rw [List.length_map] at hul
    refine ifnb (fun hne => ?_) (fun he => ?_)
    · repeat walk_at "y"
      refine co_lenL hDfs ?_
      rw [List.length_map]
      repeat walk_at "y"
      have hfl : fs.length ≤ 8 := by
        have e : t.leaves.length = (fs ++ pile ts).length := by rw [hlv]
        rw [List.length_append] at e; omega
      refine ifd (fun _ => ?_) (fun h => absurd (by omega) h)
      have htn : ts ≠ [] := fun e => by subst e; have : us = [] := List.length_eq_zero_iff.mp hul; rw [this] at hne; cases hne
      obtain ⟨ts', t', rfl⟩ : ∃ ts' t', ts = ts' ++ [t'] := ⟨ts.dropLast, ts.getLast htn, (List.dropLast_concat_getLast htn).symm⟩
      rw [List.map_append] at hus
      obtain ⟨us', u, rfl, hus', hu⟩ := dps_split hus
      repeat walk_at "y"
      refine we_pop ?_
      repeat walk_at "y"
      refine ⟨W, _, u, rfl, hWus, by simp, ?_⟩
      rw [List.dropLast_concat]
      have hDW : D ≠ W := Ne.symm hWD
      have hWI := hI W hW
      have hDI := hI D hDH
      have g1 : Gr [] I H I (upd H1 W (.lst us')) := g.mut hWI (.inr hW)
      have hD1 : upd H1 W (.lst us') D = some (.lst (fs.map V.int)) := by rw [upd_ne hDW]; exact hDfs
      repeat walk_at "y"
      cases t' with
      | lf i =>
        refine iteT ?_
        repeat walk_at "y"
        refine we_append ?_
        repeat walk_at "y"
        refine ⟨D, _, rfl, hD1, ?_⟩
        repeat walk_at "y"
        refine ⟨_, hD1, by rw [List.length_map]; omega, ?_⟩
        cases hu
        repeat walk_at "y"
        refine ⟨sizes ts', by rw [sizes_snoc]; show _ < _ + 1; omega, ts', us', fs ++ [i], _, rfl, rfl, g1.mut hDI (.inr hDH), by rw [upd_ne hWD]; exact upd_same, hus', by rw [upd_same, List.map_append]; rfl, ?_⟩
        rw [hlv, pile_snoc]; simp [Tree.leaves]
      | nd l r =>
        refine iteF ?_
        repeat walk_at "y"
        refine co_len B g1.sub (.inr hu) ?_
        repeat walk_at "y"
        refine ifd (fun _ => ?_) (fun h => absurd rfl h)
        repeat walk_at "y"
        refine we_extend ?_
        repeat walk_at "y"
        refine ⟨W, us', rfl, upd_same, ?_⟩
        repeat walk_at "y"
        refine io_T B g1.sub hu (atI_nn (by decide) rfl) fun v1 hv1 => ?_
        repeat walk_at "y"
        refine io_T B g1.sub hu (atI_nn (by decide) rfl) fun v2 hv2 => ?_
        repeat walk_at "y"
        refine ⟨le_line (by decide : (2 : Nat) ≤ 16777216), fun P hP => ?_⟩
        have hPW : W ≠ P := fun e => by subst e; rw [upd_same] at hP; cases hP
        have hPD : D ≠ P := fun e => by subst e; rw [hD1] at hP; cases hP
        refine ⟨P, us', [v1, v2], rfl, by rw [upd_ne hPW]; exact upd_same, upd_same, ?_, ?_⟩
        · have e : t.leaves.length = (fs ++ pile (ts' ++ [.nd l r])).length := by rw [hlv]
          rw [List.length_append] at e
          have := len_le_pile (ts' ++ [.nd l r]); have := hus'.len; rw [List.length_map] at this; rw [List.length_append] at *; simp only [List.length_cons, List.length_nil] at *; omega
        repeat walk_at "y"
        refine ⟨sizes (ts' ++ [r, l]), ?_, ts' ++ [r, l], us' ++ [v1, v2], fs, _, rfl, rfl, (g1.tmp hP).mut hWI (.inr hW), upd_same, ?_, by rw [upd_ne hDW, upd_ne hPD]; exact hD1, ?_⟩
        · unfold sizes; simp [Tree.size]; omega
        · rw [List.map_append]; exact dps_append hus' (.cons hv1 (.cons hv2 .nil))
        · rw [hlv, pile_snoc]; unfold pile; simp [Tree.leaves]
    · have hue : us = [] := by cases us with | nil => rfl | cons _ _ => cases he
      subst hue
      have hte : ts = [] := List.length_eq_zero_iff.mp hul.symm
      subst hte
      refine iteF ?_
      repeat walk_at "y"
      have hfr := g.frz hDfs hDH
      refine q _ _ H1 hfr ?_
      rw [hlv]
      show Dp Z.K _ _ (dI (fs ++ []))
      rw [List.append_nil]
      exact dI_of upd_same
end Y

namespace Y
open PySem PySem.Spec PyProof.Rows L2
/-- membership, slots -/
local macro_rules | `(tactic| walk_at "mem") => `(tactic| (repeat (first | with_reducible exact List.mem_cons_self | with_reducible apply List.mem_cons_of_mem)))
local macro_rules | `(tactic| walk_at "at") => `(tactic| (repeat (first | with_reducible exact At2.z | with_reducible apply At2.s)))
local macro_rules | `(tactic| walk_at "up") => `(tactic| (repeat (first | with_reducible exact Up2.z | with_reducible apply Up2.s)))
local macro_rules | `(tactic| walk_at "upf") => `(tactic| (intro _; (repeat (first | with_reducible exact Up2.z | with_reducible apply Up2.s))))
local macro_rules | `(tactic| walk_at "sub") => `(tactic| (with_reducible first | assumption | exact Gr.sub (by assumption)))
/-- one step -/
local macro_rules | `(tactic| walk_at "y") => `(tactic| (with_reducible first
  | refine wss_cons ?_ | refine we_cst (by assumption) (by walk_at "mem") (by with_reducible assumption) ?_ | refine we_var (by assumption) (by walk_at "at") ?_ | refine we_int ?_ | refine we_negC ?_ | refine we_bl ?_ | refine we_non ?_ | refine we_str ?_
  | refine wa_cons ?_ | refine wa_nil ?_ | refine wk_cons ?_ | refine wk_nil ?_
  | refine we_ty (by assumption) (by walk_at "mem") (Std.int (by assumption)) b_int ?_ | refine we_ty (by assumption) (by walk_at "mem") (Std.bool (by assumption)) b_bool ?_
  | refine we_ty (by assumption) (by walk_at "mem") (Std.list (by assumption)) b_list ?_ | refine we_ty (by assumption) (by walk_at "mem") (Std.tuple (by assumption)) b_tuple ?_ | refine we_ty (by assumption) (by walk_at "mem") (Std.str (by assumption)) b_str ?_
  | refine we_bin ?_ | refine bo_add ?_ | refine bo_sub ?_ | refine bo_lt ?_ | refine bo_le ?_ | refine bo_gt ?_ | refine bo_ge ?_ | refine bo_eqI ?_ | refine bo_neI ?_ | refine bo_eqS ?_ | refine bo_neS ?_ | refine bo_eqB ?_ | refine bo_neB ?_ | refine bo_isN ?_ | refine bo_notN ?_
  | refine we_cmp ?_ | refine we_and ?_ | refine we_or ?_ | refine we_one ?_ | refine we_not ?_ | refine we_if ?_ | refine we_chain ?_
  | refine wt_cmp ?_ | refine wt_not ?_ | refine wt_bool ?_ | refine ww_and ?_ | refine ww_or ?_ | refine ww_and1 ?_ | refine ww_or1 ?_ | refine wt_chain ?_
  | refine we_callB (by assumption) (by walk_at "mem") (Std.isinstance (by assumption)) b_isinstance ?_ | refine we_callB (by assumption) (by walk_at "mem") (Std.len (by assumption)) b_len ?_
  | refine we_callTy (by assumption) (by walk_at "mem") (Std.int (by assumption)) b_int ?_
  | refine isi_int (by assumption) (by walk_at "sub") (by assumption) ?_ | refine isi_bool (by assumption) (by walk_at "sub") (by assumption) ?_ | refine isi_list (by assumption) (by walk_at "sub") (by assumption) ?_ | refine isi_tup (by assumption) (by walk_at "sub") (by assumption) ?_ | refine isi_str (by assumption) (by walk_at "sub") (by assumption) ?_
  | refine co_int ?_ | refine co_intB ?_
  | refine we_tup ?_ | refine we_lst ?_ | refine we_ix ?_ | refine we_slice ?_ | refine wo_none ?_ | refine wo_some ?_
  | refine ws_set (by assumption) ?_ | refine ws_ret ?_ | refine ws_if ?_ | refine ws_expr ?_ | refine ws_retN ?_ | refine ws_pass ?_ | refine ws_break ?_ | refine ws_cont ?_ | refine wss_nil ?_
  | refine iteT ?_ | refine iteF ?_ | refine exb ?_ | refine exi ?_ | refine exv ?_ | refine exu (by walk_at "up") ?_ | refine wt_call ?_
  | refine we_callK (by assumption) (by with_reducible assumption) (room_le (by assumption) (by decide)) passZ (by walk_at "mem") ?_
  | refine we_call (by assumption) (by with_reducible assumption) (room_le (by assumption) (by decide)) passZ (by walk_at "mem") ?_))

def upTo (m : Nat) : List Int := (List.range m).map fun i : Nat => (i : Int)
theorem upTo_len (m : Nat) : (upTo m).length = m := by unfold upTo; rw [List.length_map, List.length_range]
theorem upTo_get {m i : Nat} (h : i < m) : (upTo m)[i]? = some (i : Int) := by unfold upTo; rw [List.getElem?_map, List.getElem?_range h]; rfl
def spIsTree (Z : Wd) : Sp := fun vs H Q _ => ∃ I v t, vs = [v] ∧ Same I H ∧ Dp Z.K I v (dTr t) ∧ t.leaves.length ≤ 8 ∧ t.leaves = upTo t.leaves.length ∧ ∀ I' H', Gr [] I H I' H' → Q (.bl true) H'
theorem co_allD {Z : Wd} {X : Cx} {N : List Str} {sc : Scope} {M : Msk} {G : List Str} {I H : Hp} {Q : VK} {x : V} {bs : List Bool} (B : Bd Z X N sc M G) (s : Same I H) (h : Dp Z.K I x (.list (bs.map PyData.bool))) (q : Q (.bl (bs.all id)) H) : CO X (.builtin "all") [x] H Q := by
  obtain ⟨a, xs, rfl, h1, h2⟩ := h.list_inv
  have e : xs = bs.map V.bl := by
    clear h h1 q
    induction bs generalizing xs with
    | nil => cases h2; rfl
    | cons b bs ih =>
      cases h2 with
      | cons h t => cases h; rw [ih _ t]; rfl
  subst e
  exact cO (cr_all B.calm) ⟨a, bs, rfl, by rw [B.K]; exact s.seq h1, q⟩
theorem fn_is_tree {Z : Wd} {f : Addr} {fd : FuncData} (T : Std Z) (c1 : Cst Z "MOST_ITEMS" 8) (F1 : Fn Z 1 "leaves_of" ["tree"] (spLeaves Z)) (F2 : FnK Z 2 "is_between" ["value", "low", "high"] 1 ["low", "high"] (spBetween Z))
    (F : Fun Z.K "is_tree" "is_tree" s_is_tree f fd) : FnG Z 3 f fd ["value"] (spIsTree Z) := by
  refine fnG_of F sc_is_tree ok_is_tree (fun vs H Q E h => ?_) (fun X H vs Q E B R h => ?_)
  · obtain ⟨I, v, t, rfl, _⟩ := h; rfl
  · obtain ⟨I, v, t, rfl, s, hv, hl, hlv, q⟩ := h
    have hr := R.room
    have hl1 := t.leaves_pos
    refine wst (σ' := some v :: z_is_tree) rfl (wss_cons ?_)
    repeat walk_at "y"
    refine ⟨I, v, t, rfl, s, hv, hl, fun u I1 H1 g1 hu => ?_⟩
    obtain ⟨a, rfl, hsq⟩ := dI_inv hu
    repeat walk_at "y"
    rw [dec_non (by intro e; cases e)]
    refine iteF ?_
    repeat walk_at "y"
    refine co_len B g1.sub (.inl hu) ?_
    rw [List.length_map]
    repeat walk_at "y"
    refine ifd (fun _ => ?_) (fun h => absurd (by omega) h)
    repeat walk_at "y"
    refine ifnd (fun h => absurd (by omega) h) (fun _ => ?_)
    repeat walk_at "y"
    refine we_callB B (by walk_at "mem") T.all b_all (wa_cons ?_)
    refine we_lc (own := oc0_is_tree) B (by decide +kernel) (wi_enum B (by walk_at "mem") T.enumerate ?_)
    repeat walk_at "y"
    refine ⟨a, _, rfl, B.sqL (g1.sub.seq hsq), ?_⟩
    refine li_mapE (S := []) (M' := mc0_is_tree) (G' := gc0_is_tree) (I0 := I1) (xs := t.leaves.map V.int) (σ0 := [some v, some (.ref a), none, none]) (fun j es _ _ => es = (List.replicate j true).map PyData.bool) B (by decide +kernel) g1.sub (by simp) stab_nil (B.sqL hsq) (by rw [List.length_map]; omega) rfl rfl
      (fun j x hx => ?_) (fun u I2 I3 es H5 hes _ g3 hv => ?_)
    · obtain ⟨z, rfl, hz⟩ := ints_get hx
      have hj : j < t.leaves.length := (List.getElem?_eq_some_iff.mp hz).1
      have hzj : z = (j : Int) := by
        have := upTo_get hj
        rw [← hlv, hz] at this
        exact Option.some.inj this
      refine ⟨_, _, by walk_at "up", by walk_at "up", rfl, fun es I2 H5 g3 hes X' hA B' => ?_⟩
      have hr' : Room 2 X'.A := by rw [hA]; exact hr
      repeat walk_at "y"
      refine ⟨rfl, rfl, spBetween_i g3.sub (.int z) ?_⟩
      have e : btw (.int z) (j : Int) (j : Int) = true := by simp only [btw, Bool.and_eq_true, decide_eq_true_eq]; omega
      rw [e]
      refine ⟨I2, _, .refl g3.sub, .bl _, ?_⟩
      rw [hes, List.replicate_succ', List.map_append]; rfl
    · rw [hes] at hv
      refine wa_nil (co_allD B g3.sub hv ?_)
      have e : (List.replicate (t.leaves.map V.int).length true).all id = true := by rw [List.all_eq_true]; intro x hx; rw [List.eq_of_mem_replicate hx]; rfl
      rw [e]
      exact q _ _ (g1.trans g3)
def spCheckTree (Z : Wd) : Sp := fun vs H Q _ => ∃ I v t, vs = [v] ∧ Same I H ∧ Dp Z.K I v (dTr t) ∧ t.leaves.length ≤ 8 ∧ t.leaves = upTo t.leaves.length ∧ ∀ I' H', Gr [] I H I' H' → Q .non H'
theorem fn_check_tree {Z : Wd} {f : Addr} {fd : FuncData} (T : Std Z) (F1 : Fn Z 3 "is_tree" ["value"] (spIsTree Z)) (F : Fun Z.K "check_tree" "check_tree" s_check_tree f fd) : FnG Z 4 f fd ["tree"] (spCheckTree Z) := by
  refine fnG_of F sc_check_tree ok_check_tree (fun vs H Q E h => ?_) (fun X H vs Q E B R h => ?_)
  · obtain ⟨I, v, t, rfl, _⟩ := h; rfl
  · obtain ⟨I, v, t, rfl, s, hv, hl, hlv, q⟩ := h
    have hr := R.room
    refine wst (σ' := some v :: z_check_tree) rfl (wss_cons ?_)
    repeat walk_at "y"
    refine ⟨I, v, t, rfl, s, hv, hl, hlv, fun I1 H1 g1 => ?_⟩
    repeat walk_at "y"
    refine iteF ?_
    repeat walk_at "y"
    exact q _ _ g1
def spOrderFrom (Z : Wd) (d : Nat) : Sp := fun vs H Q _ => ∃ I v t s, vs = [v, .int s] ∧ Same I H ∧ Dp Z.K I v (dTr t) ∧ t.leaves.length ≤ 8 ∧ t.depth ≤ d ∧ ∀ a I' H', Gr [] I H I' H' → I' a = some (.lst ((orderT t s).map V.int)) → Q (.ref a) H'
theorem fn_order_from {Z : Wd} {f : Addr} {fd : FuncData} (T : Std Z) (hm : Z.mg "order_from" = some (.ref f)) (hk : PySem.W.keepIn Z.K (.ref f) = true) (hb : Binds Z.K fd ["tree", "start"] []) (F : Fun Z.K "order_from" "order_from" s_order_from f fd) : ∀ d, FnG Z (d + 1) f fd ["tree", "start"] (spOrderFrom Z d) := by
  intro d
  induction d with
  | zero =>
    refine fnG_of F sc_order_from ok_order_from (fun vs H Q E h => ?_) (fun X H vs Q E B R h => ?_)
    · obtain ⟨I, v, t, s, rfl, _⟩ := h; rfl
    · obtain ⟨I, v, t, s, rfl, sI, hv, hl, hd, q⟩ := h
      refine wst (σ' := some v :: some (.int s) :: z_order_from) rfl (wss_cons ?_)
      cases t with
      | nd l r => simp [Tree.depth] at hd
      | lf i =>
        repeat walk_at "y"
        refine iteT ?_
        repeat walk_at "y"
        refine ⟨by decide +kernel, fun D hD => ?_⟩
        exact q D _ _ ((Gr.refl sI).new hD) upd_same
  | succ d ih =>
    have FF : Fn Z (d + 1) "order_from" ["tree", "start"] (spOrderFrom Z d) := ⟨⟨f, fd, hm, hk, hb, ih⟩⟩
    refine fnG_of F sc_order_from ok_order_from (fun vs H Q E h => ?_) (fun X H vs Q E B R h => ?_)
    · obtain ⟨I, v, t, s, rfl, _⟩ := h; rfl
    · obtain ⟨I, v, t, s, rfl, sI, hv, hl, hd, q⟩ := h
      have hr := R.room
      refine wst (σ' := some v :: some (.int s) :: z_order_from) rfl (wss_cons ?_)
      cases t with
      | lf i =>
        repeat walk_at "y"
        refine iteT ?_
        repeat walk_at "y"
        refine ⟨by decide +kernel, fun D hD => ?_⟩
        exact q D _ _ ((Gr.refl sI).new hD) upd_same
      | nd l r =>
        rw [Tree.depth] at hd
        rw [Tree.leaves, List.length_append] at hl
        repeat walk_at "y"
        refine iteF ?_
        repeat walk_at "y"
        refine we_call B FF hr passZ (by walk_at "mem") ?_
        repeat walk_at "y"
        refine io_T B sI hv (atI_nn (by decide) rfl) fun v1 hv1 => ?_
        repeat walk_at "y"
        refine ⟨I, v1, l, s, rfl, sI, hv1, by omega, by omega, fun a I1 H1 g1 ha => ?_⟩
        refine we_call B FF hr passZ (by walk_at "mem") ?_
        repeat walk_at "y"
        refine io_T B (g1.ii.trans g1.sub) hv (atI_nn (by decide) rfl) fun v2 hv2 => ?_
        repeat walk_at "y"
        refine ⟨I1, v2, r, s + 1, rfl, g1.sub, dp_mono g1.ii hv2, by omega, by omega, fun b I2 H2 g2 hb2 => ?_⟩
        have l1 := orderT_len l s
        have l2 := orderT_len r (s + 1)
        refine bo_cat (g2.sub _ _ (g2.ii _ _ ha)) (g2.sub _ _ hb2) (by rw [List.length_map, List.length_map]; omega) fun c hc => ?_
        have g3 := (g1.trans g2).tmp (o := .lst ((orderT l s).map V.int ++ (orderT r (s + 1)).map V.int)) hc
        repeat walk_at "y"
        refine ⟨le_line (by decide : (1 : Nat) ≤ 16777216), fun e he => ?_⟩
        have g4 := g3.tmp (o := .lst [V.int s]) he
        refine bo_cat (by rw [upd_ne (ne_none upd_same he)]; exact upd_same) upd_same (by rw [List.length_append, List.length_map, List.length_map, List.length_cons, List.length_nil]; omega) fun g hg => ?_
        refine q g _ _ (g4.new hg) ?_
        rw [upd_same, orderT, List.map_append, List.map_append]; rfl
def spOrderOf (Z : Wd) : Sp := fun vs H Q _ => ∃ I v t, vs = [v] ∧ Same I H ∧ Dp Z.K I v (dTr t) ∧ t.leaves.length ≤ 8 ∧ t.leaves = upTo t.leaves.length ∧ ∀ u I' H', Gr [] I H I' H' → Dp Z.K I' u (dI (orderT t 0)) → Q u H'
theorem fn_order_of {Z : Wd} {f : Addr} {fd : FuncData} (T : Std Z) (F1 : Fn Z 4 "check_tree" ["tree"] (spCheckTree Z)) (F2 : Fn Z 9 "order_from" ["tree", "start"] (spOrderFrom Z 8)) (F : Fun Z.K "order_of" "order_of" s_order_of f fd) : FnG Z 10 f fd ["tree"] (spOrderOf Z) := by
  refine fnG_of F sc_order_of ok_order_of (fun vs H Q E h => ?_) (fun X H vs Q E B R h => ?_)
  · obtain ⟨I, v, t, rfl, _⟩ := h; rfl
  · obtain ⟨I, v, t, rfl, s, hv, hl, hlv, q⟩ := h
    have hr := R.room
    refine wst (σ' := some v :: z_order_of) rfl (wss_cons ?_)
    repeat walk_at "y"
    refine ⟨I, v, t, rfl, s, hv, hl, hlv, fun I1 H1 g1 => ?_⟩
    repeat walk_at "y"
    refine ⟨I1, v, t, 0, rfl, g1.sub, dp_mono g1.ii hv, hl, by have := t.depth_lt; omega, fun a I2 H2 g2 ha => ?_⟩
    exact q _ _ _ (g1.trans g2) (dI_of ha)
end Y

namespace Y
open PySem PySem.Spec PyProof.Rows L2
/-- membership, slots -/
local macro_rules | `(tactic| walk_at "mem") => `(tactic| (repeat (first | with_reducible exact List.mem_cons_self | with_reducible apply List.mem_cons_of_mem)))
local macro_rules | `(tactic| walk_at "at") => `(tactic| (repeat (first | with_reducible exact At2.z | with_reducible apply At2.s)))
local macro_rules | `(tactic| walk_at "up") => `(tactic| (repeat (first | with_reducible exact Up2.z | with_reducible apply Up2.s)))
local macro_rules | `(tactic| walk_at "upf") => `(tactic| (intro _; (repeat (first | with_reducible exact Up2.z | with_reducible apply Up2.s))))
local macro_rules | `(tactic| walk_at "sub") => `(tactic| (with_reducible first | assumption | exact Gr.sub (by assumption)))
/-- one step -/
local macro_rules | `(tactic| walk_at "y") => `(tactic| (with_reducible first
  | refine wss_cons ?_ | refine we_cst (by assumption) (by walk_at "mem") (by with_reducible assumption) ?_ | refine we_var (by assumption) (by walk_at "at") ?_ | refine we_int ?_ | refine we_negC ?_ | refine we_bl ?_ | refine we_non ?_ | refine we_str ?_
  | refine wa_cons ?_ | refine wa_nil ?_ | refine wk_cons ?_ | refine wk_nil ?_
  | refine we_ty (by assumption) (by walk_at "mem") (Std.int (by assumption)) b_int ?_ | refine we_ty (by assumption) (by walk_at "mem") (Std.bool (by assumption)) b_bool ?_
  | refine we_ty (by assumption) (by walk_at "mem") (Std.list (by assumption)) b_list ?_ | refine we_ty (by assumption) (by walk_at "mem") (Std.tuple (by assumption)) b_tuple ?_ | refine we_ty (by assumption) (by walk_at "mem") (Std.str (by assumption)) b_str ?_
  | refine we_bin ?_ | refine bo_add ?_ | refine bo_sub ?_ | refine bo_lt ?_ | refine bo_le ?_ | refine bo_gt ?_ | refine bo_ge ?_ | refine bo_eqI ?_ | refine bo_neI ?_ | refine bo_eqS ?_ | refine bo_neS ?_ | refine bo_eqB ?_ | refine bo_neB ?_ | refine bo_isN ?_ | refine bo_notN ?_
  | refine we_cmp ?_ | refine we_and ?_ | refine we_or ?_ | refine we_one ?_ | refine we_not ?_ | refine we_if ?_ | refine we_chain ?_
  | refine wt_cmp ?_ | refine wt_not ?_ | refine wt_bool ?_ | refine ww_and ?_ | refine ww_or ?_ | refine ww_and1 ?_ | refine ww_or1 ?_ | refine wt_chain ?_
  | refine we_callB (by assumption) (by walk_at "mem") (Std.isinstance (by assumption)) b_isinstance ?_ | refine we_callB (by assumption) (by walk_at "mem") (Std.len (by assumption)) b_len ?_
  | refine we_callTy (by assumption) (by walk_at "mem") (Std.int (by assumption)) b_int ?_
  | refine isi_int (by assumption) (by walk_at "sub") (by assumption) ?_ | refine isi_bool (by assumption) (by walk_at "sub") (by assumption) ?_ | refine isi_list (by assumption) (by walk_at "sub") (by assumption) ?_ | refine isi_tup (by assumption) (by walk_at "sub") (by assumption) ?_ | refine isi_str (by assumption) (by walk_at "sub") (by assumption) ?_
  | refine co_int ?_ | refine co_intB ?_
  | refine we_tup ?_ | refine we_lst ?_ | refine we_ix ?_ | refine we_slice ?_ | refine wo_none ?_ | refine wo_some ?_
  | refine ws_set (by assumption) ?_ | refine ws_ret ?_ | refine ws_if ?_ | refine ws_expr ?_ | refine ws_retN ?_ | refine ws_pass ?_ | refine ws_break ?_ | refine ws_cont ?_ | refine wss_nil ?_
  | refine iteT ?_ | refine iteF ?_ | refine exb ?_ | refine exi ?_ | refine exv ?_ | refine exu (by walk_at "up") ?_ | refine wt_call ?_
  | refine we_callK (by assumption) (by with_reducible assumption) (room_le (by assumption) (by decide)) passZ (by walk_at "mem") ?_
  | refine we_call (by assumption) (by with_reducible assumption) (room_le (by assumption) (by decide)) passZ (by walk_at "mem") ?_))

/-! ### yards -/
def kTr : Tree → NestedKey
  | .lf i => .num i
  | .nd l r => .tup [kTr l, kTr r]
theorem kTr_inj : ∀ {a b : Tree}, kTr a = kTr b → a = b
  | .lf _, .lf _, h => by injection h with h; rw [h]
  | .lf _, .nd _ _, h => nomatch h
  | .nd _ _, .lf _, h => nomatch h
  | .nd _ _, .nd _ _, h => by
    injection h with h
    injection h with h1 h
    injection h with h2 _
    rw [kTr_inj h1, kTr_inj h2]
theorem kTr_depth : ∀ t : Tree, (kTr t).depth = t.depth
  | .lf _ => rfl
  | .nd l r => by
    show max (kTr l).depth (max (kTr r).depth 0) + 1 = max l.depth r.depth + 1
    rw [kTr_depth l, kTr_depth r]; omega
theorem nkv_of {Z : Wd} {I H : Hp} (s : Same I H) : ∀ {t : Tree} {v : V}, Dp Z.K I v (dTr t) → NkV Z.K H (kTr t) v
  | .lf i, v, h => by
    cases h
    rintro X pins σ st u hK II ⟨tk, rfl⟩
    exact .int i tk
  | .nd l r, v, h => by
    obtain ⟨a, xs, rfl, hsq, hds⟩ := h.tup_inv
    cases hds with
    | cons h1 hds =>
    cases hds with
    | cons h2 hds =>
    cases hds
    rintro X pins σ st u hK II rfl
    obtain ⟨its, rv, ⟨o, e1, e2, n, e3⟩, _⟩ := II.tuple (by rw [hK]; exact Same.sqT s hsq)
    cases rv with
    | cons r1 rv =>
    cases rv with
    | cons r2 rv =>
    cases rv
    exact .tup e1 e2 e3 (.cons (nkv_of s h1 X pins σ st _ hK II r1) (.cons (nkv_of s h2 X pins σ st _ hK II r2) .nil))
/-- the kind of what a tree makes of the row; what it costs -/
def kdT (J : List (List Int)) (row : List Int) : Tree → Int
  | .lf i => it row i.toNat
  | .nd l r => cel J (kdT J row l) (kdT J row r)
def coT (J T : List (List Int)) (row : List Int) : Tree → Int
  | .lf _ => 0
  | .nd l r => coT J T row l + coT J T row r + cel T (kdT J row l) (kdT J row r)
def dDeed (d : Bool × Int) : PyData := .tuple [.str (if d.1 then "join" else "part"), .int d.2]
abbrev KTab := List (NestedKey × V × V)
structure KeysOk (Z : Wd) (I : Hp) (J : List (List Int)) (row : List Int) (xs : KTab) : Prop where
  all : ∀ x ∈ xs, ∃ t, x.1 = kTr t ∧ Dp Z.K I x.2.1 (dTr t) ∧ t.depth ≤ 8 ∧ x.2.2 = .int (kdT J row t)
  nd : (xs.map (·.1)).Nodup
def Has (xs : KTab) : Tree → Prop
  | .lf i => kTr (.lf i) ∈ xs.map (·.1)
  | .nd l r => kTr (.nd l r) ∈ xs.map (·.1) ∧ Has xs l ∧ Has xs r
theorem Has.top {xs : KTab} {t : Tree} (h : Has xs t) : kTr t ∈ xs.map (·.1) := by
  cases t with
  | lf i => exact h
  | nd l r => exact h.1
theorem Has.mono {xs ys : KTab} (m : ∀ k, k ∈ xs.map (·.1) → k ∈ ys.map (·.1)) : ∀ {t : Tree}, Has xs t → Has ys t
  | .lf _, h => m _ h
  | .nd _ _, h => ⟨m _ h.1, Has.mono m h.2.1, Has.mono m h.2.2⟩
theorem KeysOk.get {Z : Wd} {I : Hp} {J : List (List Int)} {row : List Int} {xs : KTab} (h : KeysOk Z I J row xs) {t : Tree} (ht : kTr t ∈ xs.map (·.1)) : ∃ (j : Nat) (kv : V), xs[j]? = some (kTr t, kv, .int (kdT J row t)) := by
  obtain ⟨x, hx, e⟩ := List.mem_map.mp ht
  obtain ⟨j, hj⟩ := List.mem_iff_getElem?.mp hx
  obtain ⟨t', e1, _, _, e2⟩ := h.all x hx
  have : t' = t := kTr_inj (e1.symm.trans e)
  subst this
  exact ⟨j, x.2.1, by rw [hj, ← e, ← e2]⟩
theorem KeysOk.mono {Z : Wd} {I I' : Hp} {J : List (List Int)} {row : List Int} {xs : KTab} (s : Same I I') (h : KeysOk Z I J row xs) : KeysOk Z I' J row xs :=
  ⟨fun x hx => let ⟨t, h1, h2, h3⟩ := h.all x hx; ⟨t, h1, dp_mono s h2, h3⟩, h.nd⟩
theorem KeysOk.mxk {Z : Wd} {I H : Hp} {J : List (List Int)} {row : List Int} {xs : KTab} (h : KeysOk Z I J row xs) (s : Same I H) {t : Tree} {v : V} (hv : Dp Z.K I v (dTr t)) (hd : t.depth ≤ 8) : MxK Z.K H xs (kTr t) v where
  all := fun x hx => by
    obtain ⟨t', h1, h2, h3, _⟩ := h.all x hx
    rw [h1]
    exact ⟨nkv_of s h2, by rw [kTr_depth]; exact h3⟩
  nd := h.nd
  kk := nkv_of s hv
  dp := by rw [kTr_depth]; exact hd
  ns := fun x e => by
    subst e
    cases t with
    | lf i => cases hv
    | nd l r => cases hv
theorem KeysOk.put {Z : Wd} {I : Hp} {J : List (List Int)} {row : List Int} {xs : KTab} (h : KeysOk Z I J row xs) {t : Tree} {v : V} (hv : Dp Z.K I v (dTr t)) (hd : t.depth ≤ 8) : KeysOk Z I J row (putX xs (kTr t) v (.int (kdT J row t))) where
  all := fun x hx => by
    rcases putX_mem hx with ⟨e1, e2, e3⟩ | ⟨e1, _⟩
    · rcases e3 with e3 | ⟨y, hy, e4, e5⟩
      · exact ⟨t, e1, by rw [e3]; exact hv, hd, e2⟩
      · obtain ⟨t', h1, h2, h3, _⟩ := h.all y hy
        have : t' = t := kTr_inj (h1.symm.trans e4)
        subst this
        exact ⟨t', e1, by rw [← e5]; exact h2, h3, e2⟩
    · exact h.all x e1
  nd := putX_nodup h.nd
theorem putX_sub (xs : KTab) (k : NestedKey) (kv v : V) : (∀ q, q ∈ xs.map (·.1) → q ∈ (putX xs k kv v).map (·.1)) ∧ k ∈ (putX xs k kv v).map (·.1) ∧ (putX xs k kv v).length ≤ xs.length + 1 := by
  refine ⟨fun q hq => ?_, ?_, ?_⟩
  · rw [putX_keys]; split
    · exact hq
    · exact List.mem_append_left _ hq
  · rw [putX_keys]; split
    · assumption
    · simp
  · unfold putX; split
    · rw [List.length_map]; omega
    · rw [List.length_append]; exact Nat.le_refl _
structure Ya where
  t : Addr
  dx : Addr
  g : Addr
  f : Addr
  k : Addr
  d : Addr
structure YarC (Z : Wd) (C : Addr) : Prop where
  cl : Cls Z.K C
  n1 : NoAttr Z.K C "table"
  n2 : NoAttr Z.K C "goods"
  n3 : NoAttr Z.K C "forms"
  n4 : NoAttr Z.K C "kinds"
  n5 : NoAttr Z.K C "total"
  n6 : NoAttr Z.K C "deeds"
def yFs (a : Ya) (tot : Int) : List (Str × V) := [("table", .ref a.t), ("goods", .ref a.g), ("forms", .ref a.f), ("kinds", .ref a.k), ("total", .int tot), ("deeds", .ref a.d)]
def totF (J T : List (List Int)) (row : List Int) (fs : List Tree) : Int := (fs.map (coT J T row)).sum
def Ya.own (a : Ya) (y : Addr) : List Addr := [y, a.g, a.f, a.k, a.d]
/-- the yard at y: its trees fs, its deeds ds -/
structure YardAt (Z : Wd) (C Ct : Addr) (I H : Hp) (y : Addr) (a : Ya) (J T : List (List Int)) (row : List Int) (fs : List Tree) (ds : List (Bool × Int)) : Prop where
  obj : H y = some (.ins C a.dx (yFs a (totF J T row fs)))
  tab : TabAt Z Ct I a.t J T
  go : H a.g = some (.lst ((fs.map (kdT J row)).map V.int))
  fo : ∃ us, H a.f = some (.lst us) ∧ DpAll Z.K I us (fs.map dTr)
  ki : ∃ xs, H a.k = some (MxD Z.w a.k xs) ∧ KeysOk Z I J row xs ∧ (∀ f ∈ fs, Has xs f) ∧ xs.length ≤ 8 + ds.length
  de : ∃ us, H a.d = some (.lst us) ∧ DpAll Z.K I us (ds.map dDeed)
  lv : (fs.map Tree.leaves).flatten = upTo row.length
  fr : ∀ p ∈ a.own y, I p = none
  ne : (a.own y).Nodup
end Y

namespace Y
open PySem PySem.Spec PyProof.Rows L2
/-- membership, slots -/
local macro_rules | `(tactic| walk_at "mem") => `(tactic| (repeat (first | with_reducible exact List.mem_cons_self | with_reducible apply List.mem_cons_of_mem)))
local macro_rules | `(tactic| walk_at "at") => `(tactic| (repeat (first | with_reducible exact At2.z | with_reducible apply At2.s)))
local macro_rules | `(tactic| walk_at "up") => `(tactic| (repeat (first | with_reducible exact Up2.z | with_reducible apply Up2.s)))
local macro_rules | `(tactic| walk_at "upf") => `(tactic| (intro _; (repeat (first | with_reducible exact Up2.z | with_reducible apply Up2.s))))
local macro_rules | `(tactic| walk_at "sub") => `(tactic| (with_reducible first | assumption | exact Gr.sub (by assumption)))
/-- one step -/
local macro_rules | `(tactic| walk_at "y") => `(tactic| (with_reducible first
  | refine wss_cons ?_ | refine we_cst (by assumption) (by walk_at "mem") (by with_reducible assumption) ?_ | refine we_var (by assumption) (by walk_at "at") ?_ | refine we_int ?_ | refine we_negC ?_ | refine we_bl ?_ | refine we_non ?_ | refine we_str ?_
  | refine wa_cons ?_ | refine wa_nil ?_ | refine wk_cons ?_ | refine wk_nil ?_
  | refine we_ty (by assumption) (by walk_at "mem") (Std.int (by assumption)) b_int ?_ | refine we_ty (by assumption) (by walk_at "mem") (Std.bool (by assumption)) b_bool ?_
  | refine we_ty (by assumption) (by walk_at "mem") (Std.list (by assumption)) b_list ?_ | refine we_ty (by assumption) (by walk_at "mem") (Std.tuple (by assumption)) b_tuple ?_ | refine we_ty (by assumption) (by walk_at "mem") (Std.str (by assumption)) b_str ?_
  | refine we_bin ?_ | refine bo_add ?_ | refine bo_sub ?_ | refine bo_lt ?_ | refine bo_le ?_ | refine bo_gt ?_ | refine bo_ge ?_ | refine bo_eqI ?_ | refine bo_neI ?_ | refine bo_eqS ?_ | refine bo_neS ?_ | refine bo_eqB ?_ | refine bo_neB ?_ | refine bo_isN ?_ | refine bo_notN ?_
  | refine we_cmp ?_ | refine we_and ?_ | refine we_or ?_ | refine we_one ?_ | refine we_not ?_ | refine we_if ?_ | refine we_chain ?_
  | refine wt_cmp ?_ | refine wt_not ?_ | refine wt_bool ?_ | refine ww_and ?_ | refine ww_or ?_ | refine ww_and1 ?_ | refine ww_or1 ?_ | refine wt_chain ?_
  | refine we_callB (by assumption) (by walk_at "mem") (Std.isinstance (by assumption)) b_isinstance ?_ | refine we_callB (by assumption) (by walk_at "mem") (Std.len (by assumption)) b_len ?_
  | refine we_callTy (by assumption) (by walk_at "mem") (Std.int (by assumption)) b_int ?_
  | refine isi_int (by assumption) (by walk_at "sub") (by assumption) ?_ | refine isi_bool (by assumption) (by walk_at "sub") (by assumption) ?_ | refine isi_list (by assumption) (by walk_at "sub") (by assumption) ?_ | refine isi_tup (by assumption) (by walk_at "sub") (by assumption) ?_ | refine isi_str (by assumption) (by walk_at "sub") (by assumption) ?_
  | refine co_int ?_ | refine co_intB ?_
  | refine we_tup ?_ | refine we_lst ?_ | refine we_ix ?_ | refine we_slice ?_ | refine wo_none ?_ | refine wo_some ?_
  | refine ws_set (by assumption) ?_ | refine ws_ret ?_ | refine ws_if ?_ | refine ws_expr ?_ | refine ws_retN ?_ | refine ws_pass ?_ | refine ws_break ?_ | refine ws_cont ?_ | refine wss_nil ?_
  | refine iteT ?_ | refine iteF ?_ | refine exb ?_ | refine exi ?_ | refine exv ?_ | refine exu (by walk_at "up") ?_ | refine wt_call ?_
  | refine we_callK (by assumption) (by with_reducible assumption) (room_le (by assumption) (by decide)) passZ (by walk_at "mem") ?_
  | refine we_call (by assumption) (by with_reducible assumption) (room_le (by assumption) (by decide)) passZ (by walk_at "mem") ?_))

theorem Gr.out' {S : List Addr} {I H I1 H1 : Hp} {p : Addr} (g : Gr S I H I1 H1) (h : H1 p = none) : I1 p = none := by
  cases e : I1 p with
  | none => rfl
  | some o => have := g.sub _ _ e; rw [h] at this; cases this
theorem ws_fldY {Z : Wd} {X : Cx} {N : List Str} {sc : Scope} {M : Msk} {G : List Str} {σ : L2.St} {H : Hp} {D : Ends} {p p' : Pos} {o e : Expr} {f : Str} {C : Addr} (B : Bd Z X N sc M G) (c : Cls Z.K C) (n : NoAttr Z.K C f)
    (q : WE X e σ H fun v H1 => WE X o σ H1 fun x H2 => ∃ a dx fs fs', x = .ref a ∧ H2 a = some (.ins C dx fs) ∧ fs.length < 1000 ∧ putF f v fs = fs' ∧ D.nx σ (upd H2 a (.ins C dx fs'))) (hs : swapsWith e (some (.Attribute o f p')) p.line X.env = pure false := by with_unfolding_all rfl) : WS X (.Assign [.Attribute o f p'] e p) D σ H :=
  ws_fld (q.imp fun v H1 q1 => q1.imp fun x H2 ⟨a, dx, fs, fs', h1, h2, h3, h4, h5⟩ => ⟨a, C, dx, fs, h1, h2, B.cls c, B.noa n, h3, by rw [h4]; exact h5⟩) hs
theorem numX_mem : ∀ {xs : List V} {k : Nat} {x : NestedKey × V × V}, x ∈ numX k xs → ∃ j : Nat, k ≤ j ∧ x.1 = .num (j : Int) ∧ x.2.1 = .int (j : Int) ∧ xs[j - k]? = some x.2.2
  | [], _, _, h => by cases h
  | y :: r, k, x, h => by
    rcases List.mem_cons.mp h with e | h
    · subst e; exact ⟨k, Nat.le_refl _, rfl, rfl, by simp⟩
    · obtain ⟨j, h1, h2, h3, h4⟩ := numX_mem h
      refine ⟨j, by omega, h2, h3, ?_⟩
      rw [show j - k = (j - (k + 1)) + 1 by omega]; simpa using h4
theorem numX_keys : ∀ (xs : List V) (k : Nat), (numX k xs).map (·.1) = (List.range' k xs.length).map fun i : Nat => NestedKey.num (i : Int)
  | [], _ => rfl
  | y :: r, k => by rw [numX, List.map_cons, numX_keys r (k + 1), List.length_cons, List.range'_succ, List.map_cons]
theorem numX_len : ∀ (xs : List V) (k : Nat), (numX k xs).length = xs.length
  | [], _ => rfl
  | _ :: r, k => by rw [numX, List.length_cons, List.length_cons, numX_len r]
theorem keys0 {Z : Wd} {I : Hp} {J : List (List Int)} {row : List Int} : KeysOk Z I J row (numX 0 (row.map V.int)) where
  all := fun x hx => by
    obtain ⟨j, _, h2, h3, h4⟩ := numX_mem hx
    rw [Nat.sub_zero] at h4
    obtain ⟨z, hz, hr⟩ := ints_get h4
    refine ⟨.lf j, h2, by rw [h3]; exact .int _, Nat.zero_le _, ?_⟩
    rw [hz]
    show V.int z = .int (it row (j : Int).toNat)
    rw [Int.toNat_natCast]; unfold it; rw [List.getD_eq_getElem?_getD, hr]; rfl
  nd := by
    rw [numX_keys]
    have hn : (List.range' 0 (row.map V.int).length).Nodup := List.nodup_range'
    unfold List.Nodup at hn ⊢
    rw [List.pairwise_map]
    exact hn.imp fun h e => h (by injection e with e; omega)
theorem has0 {row : List Int} {j : Nat} (h : j < row.length) : Has (numX 0 (row.map V.int)) (.lf (j : Int)) := by
  show kTr (.lf j) ∈ _
  rw [numX_keys]
  exact List.mem_map.mpr ⟨j, by rw [List.mem_range'_1, List.length_map]; omega, rfl⟩
def seeds (m : Nat) : List Tree := (List.range m).map fun i : Nat => Tree.lf (i : Int)
theorem seeds_kd (J : List (List Int)) (row : List Int) : (seeds row.length).map (kdT J row) = row := by
  unfold seeds
  rw [List.map_map]
  refine List.ext_getElem (by simp) fun i h1 h2 => ?_
  rw [List.getElem_map, List.getElem_range]
  show it row (i : Int).toNat = _
  rw [Int.toNat_natCast]; unfold it; rw [List.getD_eq_getElem?_getD, List.getElem?_eq_getElem h2]; rfl
theorem flat_lf : ∀ xs : List Int, (xs.map fun i => (Tree.lf i).leaves).flatten = xs
  | [] => rfl
  | x :: r => by rw [List.map_cons, List.flatten_cons, flat_lf r]; rfl
theorem seeds_lv (m : Nat) : ((seeds m).map Tree.leaves).flatten = upTo m := by
  have e : (seeds m).map Tree.leaves = (upTo m).map fun i => (Tree.lf i).leaves := by unfold seeds upTo; rw [List.map_map, List.map_map]; rfl
  rw [e, flat_lf]
theorem seeds_tot (J T : List (List Int)) (row : List Int) (m : Nat) : totF J T row (seeds m) = 0 := by
  have : (seeds m).map (coT J T row) = List.replicate m 0 := by
    unfold seeds; rw [List.map_map]
    refine List.eq_replicate_iff.mpr ⟨by simp, fun b hb => ?_⟩
    obtain ⟨i, _, rfl⟩ := List.mem_map.mp hb
    rfl
  unfold totF; rw [this]
  clear this
  induction m with
  | zero => rfl
  | succ m ih => rw [List.replicate_succ, List.sum_cons, ih]; rfl
theorem dps_seeds {K : PySem.W.Frag} {I : Hp} : ∀ xs : List Nat, DpAll K I (xs.map fun i : Nat => V.int (i : Int)) ((xs.map fun i : Nat => Tree.lf (i : Int)).map dTr)
  | [] => .nil
  | x :: r => .cons (.int _) (dps_seeds r)
def spYInit (Z : Wd) (C Ct : Addr) : Sp := fun vs H Q _ => ∃ I y dx t v J T row n, vs = [.ref y, .ref t, v] ∧ Same I H ∧ I y = none ∧ H y = some (.ins C dx []) ∧ TabAt Z Ct I t J T ∧ Jok J n ∧ Dp Z.K I v (dI row) ∧ Rok row n ∧
  ∀ I' H' a, a.dx = dx → Gr [y] I H I' H' → YardAt Z C Ct I' H' y a J T row (seeds row.length) [] → (∀ p ∈ [a.g, a.f, a.k, a.d], H p = none) → Q .non H'
theorem fn_Yard_init {Z : Wd} {f C Ct : Addr} {fd : FuncData} (T : Std Z) (K : YarC Z C) (F1 : Fn Z 3 "check_row" ["table", "row"] (spCheckRow Z Ct)) (F : Fun Z.K "__init__" "Yard.__init__" s_Yard_init f fd) : FnG Z 4 f fd ["self", "table", "row"] (spYInit Z C Ct) := by
  refine fnG_of F sc_Yard_init ok_Yard_init (fun vs H Q E h => ?_) (fun X H vs Q E B R h => ?_)
  · obtain ⟨I, y, dx, t, v, J, T, row, n, rfl, _⟩ := h; rfl
  · obtain ⟨I, y, dx, t, v, J, T', row, n, rfl, s, hyI, hy, ht, hJ, hrow, hrk, q⟩ := h
    have hr := R.room
    obtain ⟨b, rfl, hsq⟩ := dI_inv hrow
    have hr8 := hrk.2.1
    refine wst (σ' := some (.ref y) :: some (.ref t) :: some (.ref b) :: z_Yard_init) rfl (wss_cons ?_)
    repeat walk_at "y"
    refine ⟨I, t, _, J, T', row, n, rfl, s, ht, hJ, hrow, hrk, fun H1 g1 => ?_⟩
    have hy1 : H1 y = some (.ins C dx []) := g1.keep _ _ hy (by simp)
    repeat walk_at "y"
    refine ws_fldY B K.cl K.n1 ?_
    repeat walk_at "y"
    refine ⟨y, dx, _, [("table", .ref t)], rfl, hy1, of_decide_eq_true rfl, rfl, ?_⟩
    have g2 : Gr [y] I H I (upd H1 y (.ins C dx [("table", .ref t)])) := g1.nil.mut hyI (.inl (by simp))
    have hy2 := upd_same (H := H1) (a := y) (o := .ins C dx [("table", .ref t)])
    generalize upd H1 y (.ins C dx [("table", .ref t)]) = H2 at g2 hy2 ⊢
    refine wss_cons (ws_fldY B K.cl K.n2 ?_)
    refine we_callTy B (by walk_at "mem") T.list b_list (wa_cons ?_)
    repeat walk_at "y"
    refine co_list B g2.sub (.inl hrow) fun g us hg hus => ?_
    have hus' := hus.ints
    subst hus'
    repeat walk_at "y"
    have hgy : y ≠ g := fun e => by subst e; rw [hy2] at hg; cases hg
    refine ⟨y, dx, _, [("table", .ref t), ("goods", .ref g)], rfl, by rw [upd_ne hgy]; exact hy2, of_decide_eq_true rfl, rfl, ?_⟩
    have hgH : H g = none := g2.dom g hg
    have g3 : Gr [y] I H I (upd (upd H2 g (.lst (row.map V.int))) y (.ins C dx [("table", .ref t), ("goods", .ref g)])) := (g2.tmp hg).mut hyI (.inl (by simp))
    have hg3 : upd (upd H2 g (.lst (row.map V.int))) y (.ins C dx [("table", .ref t), ("goods", .ref g)]) g = some (.lst (row.map V.int)) := by rw [upd_ne (Ne.symm hgy)]; exact upd_same
    have hy3 := upd_same (H := upd H2 g (.lst (row.map V.int))) (a := y) (o := .ins C dx [("table", .ref t), ("goods", .ref g)])
    generalize upd (upd H2 g (.lst (row.map V.int))) y (.ins C dx [("table", .ref t), ("goods", .ref g)]) = H3 at g3 hg3 hy3 ⊢
    refine wss_cons (ws_fldY B K.cl K.n3 ?_)
    refine we_listRg B (by walk_at "mem") (by walk_at "mem") T.list T.range ?_
    repeat walk_at "y"
    refine co_len B g3.sub (.inl hrow) ?_
    rw [List.length_map]
    refine ⟨row.length, rfl, by omega, fun f hf => ?_⟩
    have hfy : y ≠ f := fun e => by subst e; rw [hy3] at hf; cases hf
    have hfg : g ≠ f := fun e => by subst e; rw [hg3] at hf; cases hf
    have hfH : H f = none := g3.dom f hf
    repeat walk_at "y"
    refine ⟨y, dx, _, [("table", .ref t), ("goods", .ref g), ("forms", .ref f)], rfl, by rw [upd_ne hfy]; exact hy3, of_decide_eq_true rfl, rfl, ?_⟩
    have g4 : Gr [y] I H I (upd (upd H3 f (.lst ((List.range row.length).map fun i : Nat => V.int (i : Int)))) y (.ins C dx [("table", .ref t), ("goods", .ref g), ("forms", .ref f)])) := (g3.tmp hf).mut hyI (.inl (by simp))
    have hg4 : upd (upd H3 f (.lst ((List.range row.length).map fun i : Nat => V.int (i : Int)))) y (.ins C dx [("table", .ref t), ("goods", .ref g), ("forms", .ref f)]) g = some (.lst (row.map V.int)) := by rw [upd_ne (Ne.symm hgy), upd_ne hfg]; exact hg3
    have hf4 : upd (upd H3 f (.lst ((List.range row.length).map fun i : Nat => V.int (i : Int)))) y (.ins C dx [("table", .ref t), ("goods", .ref g), ("forms", .ref f)]) f = some (.lst ((List.range row.length).map fun i : Nat => V.int (i : Int))) := by rw [upd_ne (Ne.symm hfy)]; exact upd_same
    have hy4 := upd_same (H := upd H3 f (.lst ((List.range row.length).map fun i : Nat => V.int (i : Int)))) (a := y) (o := .ins C dx [("table", .ref t), ("goods", .ref g), ("forms", .ref f)])
    generalize upd (upd H3 f (.lst ((List.range row.length).map fun i : Nat => V.int (i : Int)))) y (.ins C dx [("table", .ref t), ("goods", .ref g), ("forms", .ref f)]) = H4 at g4 hg4 hf4 hy4 ⊢
    refine wss_cons (ws_fldY B K.cl K.n4 ?_)
    refine we_dc (own := oc0_Yard_init) B (by decide +kernel) (wi_enum B (by walk_at "mem") T.enumerate ?_)
    repeat walk_at "y"
    refine ⟨b, _, rfl, B.sqL (g4.sub.seq hsq), ?_⟩
    refine di_num (M' := mc0_Yard_init) (G' := gc0_Yard_init) (σ0 := [some (.ref y), some (.ref t), some (.ref b), none, none]) B (by decide +kernel) (B.sqL (g4.sub.seq hsq)) (by rw [List.length_map]; omega) rfl (fun v w => ⟨_, _, by walk_at "up", by walk_at "up", rfl, by walk_at "at", by walk_at "at"⟩) fun k H5 hk k1 k2 hk5 => ?_
    have g5 : Gr [y] I H I H5 := ⟨g4.ii, g4.sub.trans k1, g4.fresh, fun p o e hn => k1 _ _ (g4.keep p o e hn), fun p e => g4.dom p (k2 p e)⟩
    have hy5 := k1 _ _ hy4
    have hg5 := k1 _ _ hg4
    have hf5 := k1 _ _ hf4
    have hkH : H k = none := g4.dom k hk
    have hkI : I k = none := g4.out' hk
    have hky : y ≠ k := fun e => by subst e; rw [hy4] at hk; cases hk
    have hkg : g ≠ k := fun e => by subst e; rw [hg4] at hk; cases hk
    have hkf : f ≠ k := fun e => by subst e; rw [hf4] at hk; cases hk
    repeat walk_at "y"
    refine ⟨y, dx, _, [("table", .ref t), ("goods", .ref g), ("forms", .ref f), ("kinds", .ref k)], rfl, hy5, of_decide_eq_true rfl, rfl, ?_⟩
    refine mx_of B (d := k) (xs := row.map V.int) (by rw [upd_ne (Ne.symm hky)]; exact hk5) ?_
    have g6 : Gr [y] I H I (upd (upd H5 y (.ins C dx [("table", .ref t), ("goods", .ref g), ("forms", .ref f), ("kinds", .ref k)])) k (MxD Z.w k (numX 0 (row.map V.int)))) := (g5.mut hyI (.inl (by simp))).mut hkI (.inr hkH)
    have hy6 : upd (upd H5 y (.ins C dx [("table", .ref t), ("goods", .ref g), ("forms", .ref f), ("kinds", .ref k)])) k (MxD Z.w k (numX 0 (row.map V.int))) y = some (.ins C dx [("table", .ref t), ("goods", .ref g), ("forms", .ref f), ("kinds", .ref k)]) := by rw [upd_ne hky]; exact upd_same
    have hg6 : upd (upd H5 y (.ins C dx [("table", .ref t), ("goods", .ref g), ("forms", .ref f), ("kinds", .ref k)])) k (MxD Z.w k (numX 0 (row.map V.int))) g = some (.lst (row.map V.int)) := by rw [upd_ne hkg, upd_ne (Ne.symm hgy)]; exact hg5
    have hf6 : upd (upd H5 y (.ins C dx [("table", .ref t), ("goods", .ref g), ("forms", .ref f), ("kinds", .ref k)])) k (MxD Z.w k (numX 0 (row.map V.int))) f = some (.lst ((List.range row.length).map fun i : Nat => V.int (i : Int))) := by rw [upd_ne hkf, upd_ne (Ne.symm hfy)]; exact hf5
    have hk6 := upd_same (H := upd H5 y (.ins C dx [("table", .ref t), ("goods", .ref g), ("forms", .ref f), ("kinds", .ref k)])) (a := k) (o := MxD Z.w k (numX 0 (row.map V.int)))
    generalize upd (upd H5 y (.ins C dx [("table", .ref t), ("goods", .ref g), ("forms", .ref f), ("kinds", .ref k)])) k (MxD Z.w k (numX 0 (row.map V.int))) = H6 at g6 hy6 hg6 hf6 hk6 ⊢
    refine wss_cons (ws_fldY B K.cl K.n5 ?_)
    repeat walk_at "y"
    refine ⟨y, dx, _, [("table", .ref t), ("goods", .ref g), ("forms", .ref f), ("kinds", .ref k), ("total", .int 0)], rfl, hy6, of_decide_eq_true rfl, rfl, ?_⟩
    refine wss_cons (ws_fldY B K.cl K.n6 ?_)
    repeat walk_at "y"
    refine ⟨by decide +kernel, fun d hd => ?_⟩
    have hdy : y ≠ d := fun e => by subst e; rw [upd_same] at hd; cases hd
    have hd6 : H6 d = none := by rw [upd_ne (Ne.symm hdy)] at hd; exact hd
    have hdg : g ≠ d := fun e => by subst e; rw [hg6] at hd6; cases hd6
    have hdf : f ≠ d := fun e => by subst e; rw [hf6] at hd6; cases hd6
    have hdk : k ≠ d := fun e => by subst e; rw [hk6] at hd6; cases hd6
    have hdH : H d = none := g6.dom d hd6
    have hdI : I d = none := g6.out' hd6
    repeat walk_at "y"
    refine ⟨y, dx, _, yFs ⟨t, dx, g, f, k, d⟩ 0, rfl, by rw [upd_ne hdy]; exact upd_same, of_decide_eq_true rfl, rfl, ?_⟩
    repeat walk_at "y"
    have hgI : I g = none := g2.out' hg
    have hfI : I f = none := g3.out' hf
    refine q I _ ⟨t, dx, g, f, k, d⟩ rfl (((g6.mut hyI (.inl (by simp))).tmp hd).mut hyI (.inl (by simp))) ⟨?_, ht, ?_, ?_, ?_, ?_, seeds_lv _, ?_, ?_⟩ ?_
    · rw [seeds_tot]; exact upd_same
    · rw [seeds_kd]
      show upd _ y _ g = _
      rw [upd_ne (Ne.symm hgy), upd_ne hdg, upd_ne (Ne.symm hgy)]; exact hg6
    · refine ⟨_, ?_, dps_seeds (List.range row.length)⟩
      show upd _ y _ f = _
      rw [upd_ne (Ne.symm hfy), upd_ne hdf, upd_ne (Ne.symm hfy)]; exact hf6
    · refine ⟨numX 0 (row.map V.int), ?_, keys0, fun t ht => ?_, by rw [numX_len, List.length_map]; exact hr8⟩
      · show upd _ y _ k = _
        rw [upd_ne (Ne.symm hky), upd_ne hdk, upd_ne (Ne.symm hky)]; exact hk6
      · obtain ⟨i, hi, rfl⟩ := List.mem_map.mp ht
        exact has0 (List.mem_range.mp hi)
    · refine ⟨[], ?_, .nil⟩
      show upd _ y _ d = _
      rw [upd_ne (Ne.symm hdy)]; exact upd_same
    · intro p hp
      simp only [Ya.own, List.mem_cons, List.not_mem_nil, or_false] at hp
      rcases hp with rfl | rfl | rfl | rfl | rfl <;> assumption
    · simp only [Ya.own, List.nodup_cons, List.mem_cons, List.not_mem_nil, or_false, not_or, not_false_eq_true, and_true, List.nodup_nil]
      exact ⟨⟨hgy, hfy, hky, hdy⟩, ⟨hfg, hkg, hdg⟩, ⟨hkf, hdf⟩, hdk⟩
    · intro p hp
      simp only [List.mem_cons, List.not_mem_nil, or_false] at hp
      rcases hp with rfl | rfl | rfl | rfl <;> assumption
end Y

namespace Y
open PySem PySem.Spec PyProof.Rows L2
/-- membership, slots -/
local macro_rules | `(tactic| walk_at "mem") => `(tactic| (repeat (first | with_reducible exact List.mem_cons_self | with_reducible apply List.mem_cons_of_mem)))
local macro_rules | `(tactic| walk_at "at") => `(tactic| (repeat (first | with_reducible exact At2.z | with_reducible apply At2.s)))
local macro_rules | `(tactic| walk_at "up") => `(tactic| (repeat (first | with_reducible exact Up2.z | with_reducible apply Up2.s)))
local macro_rules | `(tactic| walk_at "upf") => `(tactic| (intro _; (repeat (first | with_reducible exact Up2.z | with_reducible apply Up2.s))))
local macro_rules | `(tactic| walk_at "sub") => `(tactic| (with_reducible first | assumption | exact Gr.sub (by assumption)))
/-- one step -/
local macro_rules | `(tactic| walk_at "y") => `(tactic| (with_reducible first
  | refine wss_cons ?_ | refine we_cst (by assumption) (by walk_at "mem") (by with_reducible assumption) ?_ | refine we_var (by assumption) (by walk_at "at") ?_ | refine we_int ?_ | refine we_negC ?_ | refine we_bl ?_ | refine we_non ?_ | refine we_str ?_
  | refine wa_cons ?_ | refine wa_nil ?_ | refine wk_cons ?_ | refine wk_nil ?_
  | refine we_ty (by assumption) (by walk_at "mem") (Std.int (by assumption)) b_int ?_ | refine we_ty (by assumption) (by walk_at "mem") (Std.bool (by assumption)) b_bool ?_
  | refine we_ty (by assumption) (by walk_at "mem") (Std.list (by assumption)) b_list ?_ | refine we_ty (by assumption) (by walk_at "mem") (Std.tuple (by assumption)) b_tuple ?_ | refine we_ty (by assumption) (by walk_at "mem") (Std.str (by assumption)) b_str ?_
  | refine we_bin ?_ | refine bo_add ?_ | refine bo_sub ?_ | refine bo_lt ?_ | refine bo_le ?_ | refine bo_gt ?_ | refine bo_ge ?_ | refine bo_eqI ?_ | refine bo_neI ?_ | refine bo_eqS ?_ | refine bo_neS ?_ | refine bo_eqB ?_ | refine bo_neB ?_ | refine bo_isN ?_ | refine bo_notN ?_
  | refine we_cmp ?_ | refine we_and ?_ | refine we_or ?_ | refine we_one ?_ | refine we_not ?_ | refine we_if ?_ | refine we_chain ?_
  | refine wt_cmp ?_ | refine wt_not ?_ | refine wt_bool ?_ | refine ww_and ?_ | refine ww_or ?_ | refine ww_and1 ?_ | refine ww_or1 ?_ | refine wt_chain ?_
  | refine we_callB (by assumption) (by walk_at "mem") (Std.isinstance (by assumption)) b_isinstance ?_ | refine we_callB (by assumption) (by walk_at "mem") (Std.len (by assumption)) b_len ?_
  | refine we_callTy (by assumption) (by walk_at "mem") (Std.int (by assumption)) b_int ?_
  | refine isi_int (by assumption) (by walk_at "sub") (by assumption) ?_ | refine isi_bool (by assumption) (by walk_at "sub") (by assumption) ?_ | refine isi_list (by assumption) (by walk_at "sub") (by assumption) ?_ | refine isi_tup (by assumption) (by walk_at "sub") (by assumption) ?_ | refine isi_str (by assumption) (by walk_at "sub") (by assumption) ?_
  | refine co_int ?_ | refine co_intB ?_
  | refine we_tup ?_ | refine we_lst ?_ | refine we_ix ?_ | refine we_slice ?_ | refine wo_none ?_ | refine wo_some ?_
  | refine ws_set (by assumption) ?_ | refine ws_ret ?_ | refine ws_if ?_ | refine ws_expr ?_ | refine ws_retN ?_ | refine ws_pass ?_ | refine ws_break ?_ | refine ws_cont ?_ | refine wss_nil ?_
  | refine iteT ?_ | refine iteF ?_ | refine exb ?_ | refine exi ?_ | refine exv ?_ | refine exu (by walk_at "up") ?_ | refine wt_call ?_
  | refine we_callK (by assumption) (by with_reducible assumption) (room_le (by assumption) (by decide)) passZ (by walk_at "mem") ?_
  | refine we_call (by assumption) (by with_reducible assumption) (room_le (by assumption) (by decide)) passZ (by walk_at "mem") ?_))

theorem YardAt.mono {Z : Wd} {C Ct : Addr} {I H I' H' : Hp} {y : Addr} {a : Ya} {J T : List (List Int)} {row : List Int} {fs : List Tree} {ds : List (Bool × Int)} {S : List Addr} (h : YardAt Z C Ct I H y a J T row fs ds) (g : Gr S I H I' H') (hS : ∀ p ∈ a.own y, p ∉ S) : YardAt Z C Ct I' H' y a J T row fs ds := by
  have m : ∀ p, p ∈ a.own y → ∀ o, H p = some o → H' p = some o := fun p hp o e => g.keep p o e (hS p hp)
  have hex : ∀ p, p ∈ a.own y → ∃ o, H p = some o := fun p hp => by
    simp only [Ya.own, List.mem_cons, List.not_mem_nil, or_false] at hp
    obtain ⟨us, e1, _⟩ := h.fo
    obtain ⟨xs, e2, _⟩ := h.ki
    obtain ⟨vs, e3, _⟩ := h.de
    rcases hp with e | e | e | e | e <;> subst e
    · exact ⟨_, h.obj⟩
    · exact ⟨_, h.go⟩
    · exact ⟨_, e1⟩
    · exact ⟨_, e2⟩
    · exact ⟨_, e3⟩
  refine ⟨m y (by simp [Ya.own]) _ h.obj, tab_mono g.ii h.tab, m a.g (by simp [Ya.own]) _ h.go, ?_, ?_, ?_, h.lv, fun p hp => ?_, h.ne⟩
  · obtain ⟨us, e1, e2⟩ := h.fo
    exact ⟨us, m a.f (by simp [Ya.own]) _ e1, dps_mono g.ii e2⟩
  · obtain ⟨xs, e1, e2, e3⟩ := h.ki
    exact ⟨xs, m a.k (by simp [Ya.own]) _ e1, e2.mono g.ii, e3⟩
  · obtain ⟨us, e1, e2⟩ := h.de
    exact ⟨us, m a.d (by simp [Ya.own]) _ e1, dps_mono g.ii e2⟩
  · obtain ⟨o, e⟩ := hex p hp
    exact g.out (h.fr p hp) e
theorem YardAt.mono0 {Z : Wd} {C Ct : Addr} {I H I' H' : Hp} {y : Addr} {a : Ya} {J T : List (List Int)} {row : List Int} {fs : List Tree} {ds : List (Bool × Int)} (h : YardAt Z C Ct I H y a J T row fs ds) (g : Gr [] I H I' H') : YardAt Z C Ct I' H' y a J T row fs ds := h.mono g (by simp)
def spYRow (Z : Wd) (C Ct : Addr) : Sp := fun vs H Q _ => ∃ I y a J T row fs ds, vs = [.ref y] ∧ Same I H ∧ YardAt Z C Ct I H y a J T row fs ds ∧ ∀ u I' H', Gr [] I H I' H' → Dp Z.K I' u (dI (fs.map (kdT J row))) → Q u H'
theorem fn_Yard_row {Z : Wd} {f C Ct : Addr} {fd : FuncData} (T : Std Z) (K : YarC Z C) (F : Fun Z.K "row" "Yard.row" s_Yard_row f fd) : FnG Z 1 f fd ["self"] (spYRow Z C Ct) := by
  refine fnG_of F sc_Yard_row ok_Yard_row (fun vs H Q E h => ?_) (fun X H vs Q E B R h => ?_)
  · obtain ⟨I, y, a, J, T, row, fs, ds, rfl, _⟩ := h; rfl
  · obtain ⟨I, y, a, J, T', row, fs, ds, rfl, s, Y, q⟩ := h
    refine wst (σ' := some (.ref y) :: z_Yard_row) rfl (wss_cons ?_)
    repeat walk_at "y"
    refine we_callTy B (by walk_at "mem") T.list b_list (wa_cons ?_)
    refine we_fldI B K.cl K.n2 ?_
    repeat walk_at "y"
    refine ⟨y, _, _, .ref a.g, rfl, Y.obj, rfl, ?_⟩
    repeat walk_at "y"
    refine co_listL Y.go fun l hl => ?_
    exact q _ _ _ ((Gr.refl s).new hl) (dI_of upd_same)
def spYShapes (Z : Wd) (C Ct : Addr) : Sp := fun vs H Q _ => ∃ I y a J T row fs ds, vs = [.ref y] ∧ Same I H ∧ YardAt Z C Ct I H y a J T row fs ds ∧ ∀ u I' H', Gr [] I H I' H' → Dp Z.K I' u (.list (fs.map dTr)) → Q u H'
theorem fn_Yard_shapes {Z : Wd} {f C Ct : Addr} {fd : FuncData} (T : Std Z) (K : YarC Z C) (F : Fun Z.K "shapes" "Yard.shapes" s_Yard_shapes f fd) : FnG Z 1 f fd ["self"] (spYShapes Z C Ct) := by
  refine fnG_of F sc_Yard_shapes ok_Yard_shapes (fun vs H Q E h => ?_) (fun X H vs Q E B R h => ?_)
  · obtain ⟨I, y, a, J, T, row, fs, ds, rfl, _⟩ := h; rfl
  · obtain ⟨I, y, a, J, T', row, fs, ds, rfl, s, Y, q⟩ := h
    obtain ⟨us, e1, e2⟩ := Y.fo
    refine wst (σ' := some (.ref y) :: z_Yard_shapes) rfl (wss_cons ?_)
    repeat walk_at "y"
    refine we_callTy B (by walk_at "mem") T.list b_list (wa_cons ?_)
    refine we_fldI B K.cl K.n3 ?_
    repeat walk_at "y"
    refine ⟨y, _, _, .ref a.f, rfl, Y.obj, rfl, ?_⟩
    repeat walk_at "y"
    refine co_listL e1 fun l hl => ?_
    exact q _ _ _ ((Gr.refl s).new hl) (dL_of upd_same (dps_mono (same_upd s hl) e2))
def spYHist (Z : Wd) (C Ct : Addr) : Sp := fun vs H Q _ => ∃ I y a J T row fs ds, vs = [.ref y] ∧ Same I H ∧ YardAt Z C Ct I H y a J T row fs ds ∧ ∀ u I' H', Gr [] I H I' H' → Dp Z.K I' u (.list (ds.map dDeed)) → Q u H'
theorem fn_Yard_history {Z : Wd} {f C Ct : Addr} {fd : FuncData} (T : Std Z) (K : YarC Z C) (F : Fun Z.K "history" "Yard.history" s_Yard_history f fd) : FnG Z 1 f fd ["self"] (spYHist Z C Ct) := by
  refine fnG_of F sc_Yard_history ok_Yard_history (fun vs H Q E h => ?_) (fun X H vs Q E B R h => ?_)
  · obtain ⟨I, y, a, J, T, row, fs, ds, rfl, _⟩ := h; rfl
  · obtain ⟨I, y, a, J, T', row, fs, ds, rfl, s, Y, q⟩ := h
    obtain ⟨us, e1, e2⟩ := Y.de
    refine wst (σ' := some (.ref y) :: z_Yard_history) rfl (wss_cons ?_)
    repeat walk_at "y"
    refine we_callTy B (by walk_at "mem") T.list b_list (wa_cons ?_)
    refine we_fldI B K.cl K.n6 ?_
    repeat walk_at "y"
    refine ⟨y, _, _, .ref a.d, rfl, Y.obj, rfl, ?_⟩
    repeat walk_at "y"
    refine co_listL e1 fun l hl => ?_
    exact q _ _ _ ((Gr.refl s).new hl) (dL_of upd_same (dps_mono (same_upd s hl) e2))
def spYPaid (Z : Wd) (C Ct : Addr) : Sp := fun vs H Q _ => ∃ I y a J T row fs ds, vs = [.ref y] ∧ YardAt Z C Ct I H y a J T row fs ds ∧ Q (.int (totF J T row fs)) H
theorem fn_Yard_paid {Z : Wd} {f C Ct : Addr} {fd : FuncData} (T : Std Z) (K : YarC Z C) (F : Fun Z.K "paid" "Yard.paid" s_Yard_paid f fd) : FnG Z 1 f fd ["self"] (spYPaid Z C Ct) := by
  refine fnG_of F sc_Yard_paid ok_Yard_paid (fun vs H Q E h => ?_) (fun X H vs Q E B R h => ?_)
  · obtain ⟨I, y, a, J, T, row, fs, ds, rfl, _⟩ := h; rfl
  · obtain ⟨I, y, a, J, T', row, fs, ds, rfl, Y, q⟩ := h
    refine wst (σ' := some (.ref y) :: z_Yard_paid) rfl (wss_cons ?_)
    repeat walk_at "y"
    refine we_fldI B K.cl K.n5 ?_
    repeat walk_at "y"
    exact ⟨y, _, _, _, rfl, Y.obj, rfl, q⟩
/-- facts of a row of trees -/
theorem lv_len {fs : List Tree} {m : Nat} (h : (fs.map Tree.leaves).flatten = upTo m) : fs.length ≤ m ∧ ∀ t ∈ fs, t.leaves.length ≤ m := by
  have e : ((fs.map Tree.leaves).flatten).length = m := by rw [h, upTo_len]
  clear h
  induction fs generalizing m with
  | nil => exact ⟨Nat.zero_le _, fun t ht => by cases ht⟩
  | cons t fs ih =>
    rw [List.map_cons, List.flatten_cons, List.length_append] at e
    obtain ⟨i1, i2⟩ := ih (m := ((fs.map Tree.leaves).flatten).length) rfl
    have := t.leaves_pos
    refine ⟨by rw [List.length_cons]; omega, fun t' ht => ?_⟩
    rcases List.mem_cons.mp ht with z | z
    · subst z; omega
    · have := i2 t' z; omega
theorem upTo_mem {m : Nat} {x : Int} (h : x ∈ upTo m) : 0 ≤ x ∧ x < m := by
  unfold upTo at h
  obtain ⟨i, hi, rfl⟩ := List.mem_map.mp h
  have := List.mem_range.mp hi
  omega
theorem kdT_ok {J : List (List Int)} {row : List Int} {n : Nat} (hJ : Jok J n) (hr : ∀ k ∈ row, 1 ≤ k ∧ k ≤ (n : Int)) : ∀ t : Tree, (∀ i ∈ t.leaves, 0 ≤ i ∧ i < (row.length : Int)) → 1 ≤ kdT J row t ∧ kdT J row t ≤ (n : Int)
  | .lf i, h => by
    have := h i (by simp [Tree.leaves])
    exact hr _ (it_mem (by omega))
  | .nd l r, h => by
    obtain ⟨a1, a2⟩ := kdT_ok hJ hr l fun i hi => h i (by simp [Tree.leaves, hi])
    obtain ⟨b1, b2⟩ := kdT_ok hJ hr r fun i hi => h i (by simp [Tree.leaves, hi])
    obtain ⟨_, _, _, h5, h6⟩ := hJ.1.cel a1 a2 b1 b2
    exact ⟨h5, h6⟩
theorem YardAt.kd {Z : Wd} {C Ct : Addr} {I H : Hp} {y : Addr} {a : Ya} {J T : List (List Int)} {row : List Int} {fs : List Tree} {ds : List (Bool × Int)} {n : Nat} (h : YardAt Z C Ct I H y a J T row fs ds) (hJ : Jok J n) (hr : Rok row n) {t : Tree} (ht : t ∈ fs) : 1 ≤ kdT J row t ∧ kdT J row t ≤ (n : Int) :=
  kdT_ok hJ hr.2.2 t fun i hi => upTo_mem (by rw [← h.lv]; exact List.mem_flatten.mpr ⟨_, List.mem_map.mpr ⟨t, ht, rfl⟩, hi⟩)
end Y

namespace Y
open PySem PySem.Spec PyProof.Rows L2
/-- membership, slots -/
local macro_rules | `(tactic| walk_at "mem") => `(tactic| (repeat (first | with_reducible exact List.mem_cons_self | with_reducible apply List.mem_cons_of_mem)))
local macro_rules | `(tactic| walk_at "at") => `(tactic| (repeat (first | with_reducible exact At2.z | with_reducible apply At2.s)))
local macro_rules | `(tactic| walk_at "up") => `(tactic| (repeat (first | with_reducible exact Up2.z | with_reducible apply Up2.s)))
local macro_rules | `(tactic| walk_at "upf") => `(tactic| (intro _; (repeat (first | with_reducible exact Up2.z | with_reducible apply Up2.s))))
local macro_rules | `(tactic| walk_at "sub") => `(tactic| (with_reducible first | assumption | exact Gr.sub (by assumption)))
/-- one step -/
local macro_rules | `(tactic| walk_at "y") => `(tactic| (with_reducible first
  | refine wss_cons ?_ | refine we_cst (by assumption) (by walk_at "mem") (by with_reducible assumption) ?_ | refine we_var (by assumption) (by walk_at "at") ?_ | refine we_int ?_ | refine we_negC ?_ | refine we_bl ?_ | refine we_non ?_ | refine we_str ?_
  | refine wa_cons ?_ | refine wa_nil ?_ | refine wk_cons ?_ | refine wk_nil ?_
  | refine we_ty (by assumption) (by walk_at "mem") (Std.int (by assumption)) b_int ?_ | refine we_ty (by assumption) (by walk_at "mem") (Std.bool (by assumption)) b_bool ?_
  | refine we_ty (by assumption) (by walk_at "mem") (Std.list (by assumption)) b_list ?_ | refine we_ty (by assumption) (by walk_at "mem") (Std.tuple (by assumption)) b_tuple ?_ | refine we_ty (by assumption) (by walk_at "mem") (Std.str (by assumption)) b_str ?_
  | refine we_bin ?_ | refine bo_add ?_ | refine bo_sub ?_ | refine bo_lt ?_ | refine bo_le ?_ | refine bo_gt ?_ | refine bo_ge ?_ | refine bo_eqI ?_ | refine bo_neI ?_ | refine bo_eqS ?_ | refine bo_neS ?_ | refine bo_eqB ?_ | refine bo_neB ?_ | refine bo_isN ?_ | refine bo_notN ?_
  | refine we_cmp ?_ | refine we_and ?_ | refine we_or ?_ | refine we_one ?_ | refine we_not ?_ | refine we_if ?_ | refine we_chain ?_
  | refine wt_cmp ?_ | refine wt_not ?_ | refine wt_bool ?_ | refine ww_and ?_ | refine ww_or ?_ | refine ww_and1 ?_ | refine ww_or1 ?_ | refine wt_chain ?_
  | refine we_callB (by assumption) (by walk_at "mem") (Std.isinstance (by assumption)) b_isinstance ?_ | refine we_callB (by assumption) (by walk_at "mem") (Std.len (by assumption)) b_len ?_
  | refine we_callTy (by assumption) (by walk_at "mem") (Std.int (by assumption)) b_int ?_
  | refine isi_int (by assumption) (by walk_at "sub") (by assumption) ?_ | refine isi_bool (by assumption) (by walk_at "sub") (by assumption) ?_ | refine isi_list (by assumption) (by walk_at "sub") (by assumption) ?_ | refine isi_tup (by assumption) (by walk_at "sub") (by assumption) ?_ | refine isi_str (by assumption) (by walk_at "sub") (by assumption) ?_
  | refine co_int ?_ | refine co_intB ?_
  | refine we_tup ?_ | refine we_lst ?_ | refine we_ix ?_ | refine we_slice ?_ | refine wo_none ?_ | refine wo_some ?_
  | refine ws_set (by assumption) ?_ | refine ws_ret ?_ | refine ws_if ?_ | refine ws_expr ?_ | refine ws_retN ?_ | refine ws_pass ?_ | refine ws_break ?_ | refine ws_cont ?_ | refine wss_nil ?_
  | refine iteT ?_ | refine iteF ?_ | refine exb ?_ | refine exi ?_ | refine exv ?_ | refine exu (by walk_at "up") ?_ | refine wt_call ?_
  | refine we_callK (by assumption) (by with_reducible assumption) (room_le (by assumption) (by decide)) passZ (by walk_at "mem") ?_
  | refine we_call (by assumption) (by with_reducible assumption) (room_le (by assumption) (by decide)) passZ (by walk_at "mem") ?_))

theorem ukeep {H : Hp} {p q : Addr} {o o' : HO} (h : H q = some o) (hn : q ≠ p) : upd H p o' q = some o := by rw [upd_ne hn]; exact h
theorem ukeepN {H : Hp} {p q : Addr} {o o' : HO} (h : H q = some o) (hn : H p = none) : upd H p o' q = some o := ukeep h (ne_none h hn)
section
variable {α β : Type} (pre post : List α) (l r : α) (g : α → β)
theorem spl_at : (pre ++ l :: r :: post)[pre.length]? = some l := by simp
theorem spl_at1 : (pre ++ l :: r :: post)[pre.length + 1]? = some r := by rw [List.getElem?_append_right (by omega), show pre.length + 1 - pre.length = 1 by omega]; rfl
theorem spl_take : (pre ++ post).take pre.length = pre := by simp
theorem spl_drop1 : (pre ++ l :: post).drop (pre.length + 1) = post := by rw [List.drop_append]; simp
theorem spl_drop2 : (pre ++ l :: r :: post).drop (pre.length + 2) = post := by rw [List.drop_append]; simp
end
theorem atI_pre {α : Type} {xs : List α} {k : Nat} {x : α} (h : xs[k]? = some x) : atI xs ((k : Nat) : Int) = some x := atI_nn (by omega) (by rw [Int.toNat_natCast]; exact h)
theorem atI_pre1 {α : Type} {xs : List α} {k : Nat} {x : α} (h : xs[k + 1]? = some x) : atI xs (((k : Nat) : Int) + 1) = some x := atI_nn (by omega) (by rw [show (((k : Nat) : Int) + 1).toNat = k + 1 by omega]; exact h)
def spYJoin (Z : Wd) (C Ct : Addr) : Sp := fun vs H Q _ => ∃ I y a J T row pre l r post ds n lo hi, vs = [.ref y, .int ((pre.length : Nat) : Int)] ∧ Same I H ∧ YardAt Z C Ct I H y a J T row (pre ++ l :: r :: post) ds ∧ Jok J n ∧ Rok row n ∧ Sq T n lo hi ∧ ds.length < 1000000 ∧
  ∀ I' H', Gr (a.own y) I H I' H' → YardAt Z C Ct I' H' y a J T row (pre ++ .nd l r :: post) (ds ++ [(true, ((pre.length : Nat) : Int))]) → Q (.int (cel T (kdT J row l) (kdT J row r))) H'
theorem fn_Yard_join {Z : Wd} {f C Ct : Addr} {fd : FuncData} (T : Std Z) (K : YarC Z C) (KT : TabC Z Ct) (F2 : FnK Z 2 "is_between" ["value", "low", "high"] 1 ["low", "high"] (spBetween Z)) (M1 : Mth Z 4 Ct "join" ["self", "left", "right"] (spCell Z Ct true)) (M2 : Mth Z 4 Ct "toll" ["self", "left", "right"] (spCell Z Ct false))
    (F : Fun Z.K "join" "Yard.join" s_Yard_join f fd) : FnG Z 5 f fd ["self", "at"] (spYJoin Z C Ct) := by
  refine fnG_of F sc_Yard_join ok_Yard_join (fun vs H Q E h => ?_) (fun X H vs Q E B R h => ?_)
  · obtain ⟨I, y, a, J, T, row, pre, l, r, post, ds, n, lo, hi, rfl, _⟩ := h; rfl
  · obtain ⟨I, y, a, J, T', row, pre, l, r, post, ds, n, lo, hi, rfl, s, Y, hJ, hrk, hT, hds, q⟩ := h
    have hr := R.room
    obtain ⟨us, hf, hfd⟩ := Y.fo
    obtain ⟨xs, hk, hko, hhas, hxl⟩ := Y.ki
    obtain ⟨es, hd, hdd⟩ := Y.de
    obtain ⟨dx, rr, pp, ht1, ht2, ht3⟩ := id Y.tab
    have hlv := lv_len Y.lv
    rw [List.length_append, List.length_cons, List.length_cons] at hlv
    have hr8 := hrk.2.1
    have kl := Y.kd hJ hrk (t := l) (by simp)
    have kr := Y.kd hJ hrk (t := r) (by simp)
    refine wst (σ' := some (.ref y) :: some (.int ((pre.length : Nat) : Int)) :: z_Yard_join) rfl (wss_cons ?_)
    repeat walk_at "y"
    refine we_fldI B K.cl K.n2 ?_
    repeat walk_at "y"
    refine ⟨y, _, _, .ref a.g, rfl, Y.obj, rfl, ?_⟩
    repeat walk_at "y"
    refine co_lenL Y.go ?_
    rw [List.length_map, List.length_map, List.length_append, List.length_cons, List.length_cons]
    repeat walk_at "y"
    refine ⟨rfl, rfl, spBetween_i s (.int _) ?_⟩
    have e : btw (.int ((pre.length : Nat) : Int)) 0 (((pre.length + (post.length + 1 + 1) : Nat) : Int) - 2) = true := by simp only [btw, Bool.and_eq_true, decide_eq_true_eq]; omega
    rw [e]
    repeat walk_at "y"
    refine iteF ?_
    repeat walk_at "y"
    have g1 : ((pre ++ l :: r :: post).map (kdT J row)).map V.int = (pre ++ l :: r :: post).map fun t => V.int (kdT J row t) := by rw [List.map_map]; rfl
    refine ws_par2 B 2 3 ?_
    refine wa_cons ?_
    repeat walk_at "y"
    refine we_fldI B K.cl K.n2 ?_
    repeat walk_at "y"
    refine ⟨y, _, _, .ref a.g, rfl, Y.obj, rfl, ?_⟩
    repeat walk_at "y"
    refine io_lst Y.go (atI_pre (by rw [g1, List.getElem?_map, spl_at]; rfl)) ?_
    repeat walk_at "y"
    refine we_fldI B K.cl K.n2 ?_
    repeat walk_at "y"
    refine ⟨y, _, _, .ref a.g, rfl, Y.obj, rfl, ?_⟩
    repeat walk_at "y"
    refine io_lst Y.go (atI_pre1 (by rw [g1, List.getElem?_map, spl_at1]; rfl)) ?_
    refine wa_nil ⟨_, _, _, _, rfl, by decide, by walk_at "up", by walk_at "up", ?_⟩
    have hne := Y.ne
    simp only [Ya.own, List.nodup_cons, List.mem_cons, List.not_mem_nil, or_false, not_or, not_false_eq_true, and_true, List.nodup_nil] at hne
    obtain ⟨⟨nyg, nyf, nyk, nyd⟩, ⟨ngf, ngk, ngd⟩, ⟨nfk, nfd⟩, nkd⟩ := hne
    have Iy := Y.fr y (by simp [Ya.own])
    have Ig := Y.fr a.g (by simp [Ya.own])
    have If := Y.fr a.f (by simp [Ya.own])
    have Ik := Y.fr a.k (by simp [Ya.own])
    have Id := Y.fr a.d (by simp [Ya.own])
    have Sy : y ∈ a.own y := by simp [Ya.own]
    have Sg : a.g ∈ a.own y := by simp [Ya.own]
    have Sf : a.f ∈ a.own y := by simp [Ya.own]
    have Sk : a.k ∈ a.own y := by simp [Ya.own]
    have Sd : a.d ∈ a.own y := by simp [Ya.own]
    have hy := Y.obj
    have hg := Y.go
    -- form
    repeat walk_at "y"
    refine we_fldI B K.cl K.n3 ?_
    repeat walk_at "y"
    refine ⟨y, _, _, .ref a.f, rfl, hy, rfl, ?_⟩
    repeat walk_at "y"
    obtain ⟨vl, el, dl⟩ := hfd.get (i := pre.length) (d := dTr l) (by rw [List.getElem?_map, spl_at]; rfl)
    obtain ⟨vr, er, dr⟩ := hfd.get (i := pre.length + 1) (d := dTr r) (by rw [List.getElem?_map, spl_at1]; rfl)
    refine io_lst hf (atI_pre el) ?_
    repeat walk_at "y"
    refine we_fldI B K.cl K.n3 ?_
    repeat walk_at "y"
    refine ⟨y, _, _, .ref a.f, rfl, hy, rfl, ?_⟩
    repeat walk_at "y"
    refine io_lst hf (atI_pre1 er) ?_
    refine wa_nil ⟨le_line (by decide : (2 : Nat) ≤ 16777216), fun p hp => ?_⟩
    have G1 : Gr (a.own y) I H (upd I p (.tup [vl, vr])) (upd H p (.tup [vl, vr])) := (Gr.refl s).new hp
    have hfm : Dp Z.K (upd I p (.tup [vl, vr])) (.ref p) (dTr (.nd l r)) := dT_of upd_same (.cons (dp_mono (same_upd s hp) dl) (.cons (dp_mono (same_upd s hp) dr) .nil))
    have hf0 := hf
    have hk0 := hk
    have hd0 := hd
    replace hy := ukeepN (o' := .tup [vl, vr]) hy hp
    replace hg := ukeepN (o' := .tup [vl, vr]) hg hp
    replace hf := ukeepN (o' := .tup [vl, vr]) hf hp
    replace hk := ukeepN (o' := .tup [vl, vr]) hk hp
    replace hd := ukeepN (o' := .tup [vl, vr]) hd hp
    generalize upd I p (.tup [vl, vr]) = I1 at G1 hfm
    generalize upd H p (.tup [vl, vr]) = H1 at G1 hy hg hf hk hd ⊢
    have I1y : I1 y = none := G1.out Iy Y.obj
    have I1g : I1 a.g = none := G1.out Ig Y.go
    have I1f : I1 a.f = none := G1.out If hf0
    have I1k : I1 a.k = none := G1.out Ik hk0
    have I1d : I1 a.d = none := G1.out Id hd0
    have tb := tab_mono G1.ii Y.tab
    -- toll
    repeat walk_at "y"
    refine we_meth B M2 (room_le hr (by decide)) passZ ?_
    refine we_fldI B K.cl K.n1 ?_
    repeat walk_at "y"
    refine ⟨y, _, _, .ref a.t, rfl, hy, rfl, ?_⟩
    refine ⟨a.t, dx, _, rfl, (G1.ii.trans G1.sub) _ _ ht1, rfl, ?_⟩
    repeat walk_at "y"
    refine ⟨I1, a.t, J, T', n, _, _, lo, hi, rfl, G1.sub, tb, hJ, hT, kl.1, kl.2, kr.1, kr.2, ?_⟩
    repeat walk_at "y"
    -- goods
    refine ws_asg ?_
    refine we_lst (wa_cons ?_)
    refine we_meth B M1 (room_le hr (by decide)) passZ ?_
    refine we_fldI B K.cl K.n1 ?_
    repeat walk_at "y"
    refine ⟨y, _, _, .ref a.t, rfl, hy, rfl, ?_⟩
    refine ⟨a.t, dx, _, rfl, (G1.ii.trans G1.sub) _ _ ht1, rfl, ?_⟩
    repeat walk_at "y"
    refine ⟨I1, a.t, J, T', n, _, _, lo, hi, rfl, G1.sub, tb, hJ, hT, kl.1, kl.2, kr.1, kr.2, ?_⟩
    refine wa_nil ⟨le_line (by decide : (1 : Nat) ≤ 16777216), fun b hb => ?_⟩
    refine wg_cut ?_
    refine we_fldI B K.cl K.n2 ?_
    repeat walk_at "y"
    refine ⟨y, _, _, .ref a.g, rfl, ukeepN hy hb, rfl, ?_⟩
    repeat walk_at "y"
    refine ⟨a.g, b, _, _, _, _, rfl, rfl, rfl, rfl, ukeepN hg hb, upd_same, ne_none hg hb, by omega, by omega, by rw [List.length_map, List.length_map, List.length_append, List.length_cons, List.length_cons]; omega, by rw [List.length_map, List.length_map, List.length_append, List.length_cons, List.length_cons]; simp only [List.length_cons, List.length_nil]; omega, ?_⟩
    have eg : (((pre ++ l :: r :: post).map (kdT J row)).map V.int).take ((pre.length : Nat) : Int).toNat ++ [V.int (cel (if true = true then J else T') (kdT J row l) (kdT J row r))] ++ (((pre ++ l :: r :: post).map (kdT J row)).map V.int).drop (((pre.length : Nat) : Int) + 2).toNat = ((pre ++ .nd l r :: post).map (kdT J row)).map V.int := by
      rw [Int.toNat_natCast, show (((pre.length : Nat) : Int) + 2).toNat = pre.length + 2 by omega, ← List.map_take, ← List.map_take, ← List.map_drop, ← List.map_drop, spl_take, spl_drop2]
      rw [List.map_append, List.map_append, List.map_cons, List.map_cons, List.append_assoc]; rfl
    rw [eg]
    have G2 := (G1.tmp (o := .lst [V.int (cel (if true = true then J else T') (kdT J row l) (kdT J row r))]) hb).mut (o := .lst (((pre ++ .nd l r :: post).map (kdT J row)).map V.int)) I1g (.inl Sg)
    replace hy := ukeep (o' := .lst (((pre ++ .nd l r :: post).map (kdT J row)).map V.int)) (ukeepN (o' := .lst [V.int (cel (if true = true then J else T') (kdT J row l) (kdT J row r))]) hy hb) nyg
    replace hf := ukeep (o' := .lst (((pre ++ .nd l r :: post).map (kdT J row)).map V.int)) (ukeepN (o' := .lst [V.int (cel (if true = true then J else T') (kdT J row l) (kdT J row r))]) hf hb) (Ne.symm ngf)
    replace hk := ukeep (o' := .lst (((pre ++ .nd l r :: post).map (kdT J row)).map V.int)) (ukeepN (o' := .lst [V.int (cel (if true = true then J else T') (kdT J row l) (kdT J row r))]) hk hb) (Ne.symm ngk)
    replace hd := ukeep (o' := .lst (((pre ++ .nd l r :: post).map (kdT J row)).map V.int)) (ukeepN (o' := .lst [V.int (cel (if true = true then J else T') (kdT J row l) (kdT J row r))]) hd hb) (Ne.symm ngd)
    replace hg := upd_same (H := upd H1 b (.lst [V.int (cel (if true = true then J else T') (kdT J row l) (kdT J row r))])) (a := a.g) (o := .lst (((pre ++ .nd l r :: post).map (kdT J row)).map V.int))
    generalize upd (upd H1 b (.lst [V.int (cel (if true = true then J else T') (kdT J row l) (kdT J row r))])) a.g (.lst (((pre ++ .nd l r :: post).map (kdT J row)).map V.int)) = H2 at G2 hy hg hf hk hd ⊢
    -- forms
    repeat walk_at "y"
    refine ws_asg ?_
    refine we_lst (wa_cons ?_)
    repeat walk_at "y"
    refine ⟨le_line (by decide : (1 : Nat) ≤ 16777216), fun b2 hb2 => ?_⟩
    refine wg_cut ?_
    refine we_fldI B K.cl K.n3 ?_
    repeat walk_at "y"
    refine ⟨y, _, _, .ref a.f, rfl, ukeepN hy hb2, rfl, ?_⟩
    repeat walk_at "y"
    have hul : us.length = pre.length + (post.length + 1 + 1) := by rw [hfd.len, List.length_map, List.length_append, List.length_cons, List.length_cons]
    refine ⟨a.f, b2, _, _, _, _, rfl, rfl, rfl, rfl, ukeepN hf hb2, upd_same, ne_none hf hb2, by omega, by omega, by omega, by simp only [List.length_cons, List.length_nil]; omega, ?_⟩
    have hfd2 : DpAll Z.K I1 (us.take ((pre.length : Nat) : Int).toNat ++ [.ref p] ++ us.drop (((pre.length : Nat) : Int) + 2).toNat) ((pre ++ .nd l r :: post).map dTr) := by
      have t1 := (dps_mono G1.ii hfd).take pre.length
      have t2 := (dps_mono G1.ii hfd).drop (pre.length + 2)
      rw [← List.map_take, spl_take] at t1
      rw [← List.map_drop, spl_drop2] at t2
      rw [Int.toNat_natCast, show (((pre.length : Nat) : Int) + 2).toNat = pre.length + 2 by omega, List.map_append, List.map_cons, List.append_assoc]
      exact t1.app (.cons hfm t2)
    generalize us.take ((pre.length : Nat) : Int).toNat ++ [.ref p] ++ us.drop (((pre.length : Nat) : Int) + 2).toNat = us2 at hfd2 ⊢
    have G3 := (G2.tmp (o := .lst [.ref p]) hb2).mut (o := .lst us2) I1f (.inl Sf)
    replace hy := ukeep (o' := .lst us2) (ukeepN (o' := .lst [.ref p]) hy hb2) nyf
    replace hg := ukeep (o' := .lst us2) (ukeepN (o' := .lst [.ref p]) hg hb2) ngf
    replace hk := ukeep (o' := .lst us2) (ukeepN (o' := .lst [.ref p]) hk hb2) (Ne.symm nfk)
    replace hd := ukeep (o' := .lst us2) (ukeepN (o' := .lst [.ref p]) hd hb2) (Ne.symm nfd)
    replace hf := upd_same (H := upd H2 b2 (.lst [.ref p])) (a := a.f) (o := .lst us2)
    generalize upd (upd H2 b2 (.lst [.ref p])) a.f (.lst us2) = H3 at G3 hy hg hf hk hd ⊢
    -- kinds
    repeat walk_at "y"
    refine ws_asg ?_
    repeat walk_at "y"
    refine we_fldI B K.cl K.n2 ?_
    repeat walk_at "y"
    refine ⟨y, _, _, .ref a.g, rfl, hy, rfl, ?_⟩
    repeat walk_at "y"
    refine io_lst hg (atI_pre (x := .int (kdT J row (.nd l r))) (by rw [List.map_map, List.getElem?_map, List.getElem?_append_right (Nat.le_refl _), Nat.sub_self]; rfl)) ?_
    refine wg_sub ?_
    refine we_fldI B K.cl K.n4 ?_
    repeat walk_at "y"
    refine ⟨y, _, _, .ref a.k, rfl, hy, rfl, ?_⟩
    repeat walk_at "y"
    have hdp : (Tree.nd l r).depth ≤ 8 := by
      have h1 := (Tree.nd l r).depth_lt
      have h2 : (Tree.nd l r).leaves.length ≤ row.length := by
        have e : ((pre ++ l :: r :: post).map Tree.leaves).flatten.length = row.length := by rw [Y.lv, upTo_len]
        rw [List.map_append, List.map_cons, List.map_cons, List.flatten_append, List.flatten_cons, List.flatten_cons, List.length_append, List.length_append, List.length_append] at e
        rw [Tree.leaves, List.length_append]; omega
      omega
    refine se_mx B hr hk ((hko.mono G1.ii).mxk G3.sub hfm hdp) (by omega) ?_
    have hko2 := (hko.mono G1.ii).put hfm hdp
    obtain ⟨px1, px2, px3⟩ := putX_sub xs (kTr (.nd l r)) (.ref p) (.int (kdT J row (.nd l r)))
    generalize hX : putX xs (kTr (.nd l r)) (.ref p) (.int (kdT J row (.nd l r))) = xs2 at hko2 px1 px2 px3 ⊢
    have G4 := G3.mut (o := MxD Z.w a.k xs2) I1k (.inl Sk)
    replace hy := ukeep (o' := MxD Z.w a.k xs2) hy nyk
    replace hg := ukeep (o' := MxD Z.w a.k xs2) hg ngk
    replace hf := ukeep (o' := MxD Z.w a.k xs2) hf nfk
    replace hd := ukeep (o' := MxD Z.w a.k xs2) hd (Ne.symm nkd)
    replace hk := upd_same (H := H3) (a := a.k) (o := MxD Z.w a.k xs2)
    generalize upd H3 a.k (MxD Z.w a.k xs2) = H4 at G4 hy hg hf hk hd ⊢
    -- total
    repeat walk_at "y"
    refine ws_fldaug ?_
    repeat walk_at "y"
    refine ⟨y, C, _, _, _, rfl, hy, B.cls K.cl, B.noa K.n5, rfl, ?_⟩
    repeat walk_at "y"
    refine bo_iadd ⟨_, _, hy, of_decide_eq_true rfl, ?_⟩
    have et : totF J T' row (pre ++ l :: r :: post) + cel T' (kdT J row l) (kdT J row r) = totF J T' row (pre ++ .nd l r :: post) := by
      unfold totF
      simp only [List.map_append, List.map_cons, List.sum_append, List.sum_cons, coT]
      omega
    have ef : putF "total" (V.int (totF J T' row (pre ++ l :: r :: post) + cel (if false = true then J else T') (kdT J row l) (kdT J row r))) (yFs a (totF J T' row (pre ++ l :: r :: post))) = yFs a (totF J T' row (pre ++ .nd l r :: post)) := by
      rw [← et]; rfl
    rw [ef]
    have G5 := G4.mut (o := .ins C a.dx (yFs a (totF J T' row (pre ++ .nd l r :: post)))) I1y (.inl Sy)
    replace hg := ukeep (o' := .ins C a.dx (yFs a (totF J T' row (pre ++ .nd l r :: post)))) hg (Ne.symm nyg)
    replace hf := ukeep (o' := .ins C a.dx (yFs a (totF J T' row (pre ++ .nd l r :: post)))) hf (Ne.symm nyf)
    replace hk := ukeep (o' := .ins C a.dx (yFs a (totF J T' row (pre ++ .nd l r :: post)))) hk (Ne.symm nyk)
    replace hd := ukeep (o' := .ins C a.dx (yFs a (totF J T' row (pre ++ .nd l r :: post)))) hd (Ne.symm nyd)
    replace hy := upd_same (H := H4) (a := y) (o := .ins C a.dx (yFs a (totF J T' row (pre ++ .nd l r :: post))))
    generalize upd H4 y (.ins C a.dx (yFs a (totF J T' row (pre ++ .nd l r :: post)))) = H5 at G5 hy hg hf hk hd ⊢
    -- deeds
    repeat walk_at "y"
    refine we_append ?_
    refine we_fldI B K.cl K.n6 ?_
    repeat walk_at "y"
    refine ⟨y, _, _, .ref a.d, rfl, hy, rfl, ?_⟩
    refine ⟨a.d, es, rfl, hd, ?_⟩
    refine we_tup ?_
    repeat walk_at "y"
    refine ⟨le_line (by decide : (2 : Nat) ≤ 16777216), fun t2 ht2' => ?_⟩
    have hel : es.length = ds.length := by rw [hdd.len, List.length_map]
    refine ⟨es, ukeepN hd ht2', by omega, ?_⟩
    have G6 := (G5.new (o := .tup [.str "join", .int ((pre.length : Nat) : Int)]) ht2').mut (p := a.d) (o := .lst (es ++ [.ref t2])) (by rw [upd_ne (ne_none hd ht2')]; exact I1d) (.inl Sd)
    repeat walk_at "y"
    have h12 : Same I1 (upd I1 t2 (.tup [.str "join", .int ((pre.length : Nat) : Int)])) := same_upd G5.sub ht2'
    refine q _ _ G6 ⟨?_, tab_mono h12 tb, ?_, ⟨us2, ?_, dps_mono h12 hfd2⟩, ⟨xs2, ?_, hko2.mono h12, ?_, by rw [List.length_append]; simp only [List.length_cons, List.length_nil]; omega⟩, ⟨es ++ [.ref t2], upd_same, ?_⟩, ?_, ?_, Y.ne⟩
    · exact ukeep (ukeepN hy ht2') nyd
    · exact ukeep (ukeepN hg ht2') ngd
    · exact ukeep (ukeepN hf ht2') nfd
    · exact ukeep (ukeepN hk ht2') nkd
    · intro t ht
      rcases List.mem_append.mp ht with ht | ht
      · exact (hhas t (List.mem_append_left _ ht)).mono px1
      · rcases List.mem_cons.mp ht with ht | ht
        · subst ht
          exact ⟨px2, (hhas l (by simp)).mono px1, (hhas r (by simp)).mono px1⟩
        · exact (hhas t (by simp [ht])).mono px1
    · rw [List.map_append]
      exact (dps_mono (G1.ii.trans h12) hdd).app (.cons (dT_of upd_same (.cons (.str _) (.cons (.int _) .nil))) .nil)
    · rw [← Y.lv]
      simp only [List.map_append, List.map_cons, List.flatten_append, List.flatten_cons, Tree.leaves, List.append_assoc]
    · intro z hz
      have hz0 : I1 z = none := by
        simp only [Ya.own, List.mem_cons, List.not_mem_nil, or_false] at hz
        rcases hz with e | e | e | e | e <;> subst e <;> assumption
      have hzt : z ≠ t2 := by
        simp only [Ya.own, List.mem_cons, List.not_mem_nil, or_false] at hz
        rcases hz with e | e | e | e | e <;> subst e
        · exact ne_none hy ht2'
        · exact ne_none hg ht2'
        · exact ne_none hf ht2'
        · exact ne_none hk ht2'
        · exact ne_none hd ht2'
      rw [upd_ne hzt]; exact hz0
end Y

namespace Y
open PySem PySem.Spec PyProof.Rows L2
/-- membership, slots -/
local macro_rules | `(tactic| walk_at "mem") => `(tactic| (repeat (first | with_reducible exact List.mem_cons_self | with_reducible apply List.mem_cons_of_mem)))
local macro_rules | `(tactic| walk_at "at") => `(tactic| (repeat (first | with_reducible exact At2.z | with_reducible apply At2.s)))
local macro_rules | `(tactic| walk_at "up") => `(tactic| (repeat (first | with_reducible exact Up2.z | with_reducible apply Up2.s)))
local macro_rules | `(tactic| walk_at "upf") => `(tactic| (intro _; (repeat (first | with_reducible exact Up2.z | with_reducible apply Up2.s))))
local macro_rules | `(tactic| walk_at "sub") => `(tactic| (with_reducible first | assumption | exact Gr.sub (by assumption)))
/-- one step -/
local macro_rules | `(tactic| walk_at "y") => `(tactic| (with_reducible first
  | refine wss_cons ?_ | refine we_cst (by assumption) (by walk_at "mem") (by with_reducible assumption) ?_ | refine we_var (by assumption) (by walk_at "at") ?_ | refine we_int ?_ | refine we_negC ?_ | refine we_bl ?_ | refine we_non ?_ | refine we_str ?_
  | refine wa_cons ?_ | refine wa_nil ?_ | refine wk_cons ?_ | refine wk_nil ?_
  | refine we_ty (by assumption) (by walk_at "mem") (Std.int (by assumption)) b_int ?_ | refine we_ty (by assumption) (by walk_at "mem") (Std.bool (by assumption)) b_bool ?_
  | refine we_ty (by assumption) (by walk_at "mem") (Std.list (by assumption)) b_list ?_ | refine we_ty (by assumption) (by walk_at "mem") (Std.tuple (by assumption)) b_tuple ?_ | refine we_ty (by assumption) (by walk_at "mem") (Std.str (by assumption)) b_str ?_
  | refine we_bin ?_ | refine bo_add ?_ | refine bo_sub ?_ | refine bo_lt ?_ | refine bo_le ?_ | refine bo_gt ?_ | refine bo_ge ?_ | refine bo_eqI ?_ | refine bo_neI ?_ | refine bo_eqS ?_ | refine bo_neS ?_ | refine bo_eqB ?_ | refine bo_neB ?_ | refine bo_isN ?_ | refine bo_notN ?_
  | refine we_cmp ?_ | refine we_and ?_ | refine we_or ?_ | refine we_one ?_ | refine we_not ?_ | refine we_if ?_ | refine we_chain ?_
  | refine wt_cmp ?_ | refine wt_not ?_ | refine wt_bool ?_ | refine ww_and ?_ | refine ww_or ?_ | refine ww_and1 ?_ | refine ww_or1 ?_ | refine wt_chain ?_
  | refine we_callB (by assumption) (by walk_at "mem") (Std.isinstance (by assumption)) b_isinstance ?_ | refine we_callB (by assumption) (by walk_at "mem") (Std.len (by assumption)) b_len ?_
  | refine we_callTy (by assumption) (by walk_at "mem") (Std.int (by assumption)) b_int ?_
  | refine isi_int (by assumption) (by walk_at "sub") (by assumption) ?_ | refine isi_bool (by assumption) (by walk_at "sub") (by assumption) ?_ | refine isi_list (by assumption) (by walk_at "sub") (by assumption) ?_ | refine isi_tup (by assumption) (by walk_at "sub") (by assumption) ?_ | refine isi_str (by assumption) (by walk_at "sub") (by assumption) ?_
  | refine co_int ?_ | refine co_intB ?_
  | refine we_tup ?_ | refine we_lst ?_ | refine we_ix ?_ | refine we_slice ?_ | refine wo_none ?_ | refine wo_some ?_
  | refine ws_set (by assumption) ?_ | refine ws_ret ?_ | refine ws_if ?_ | refine ws_expr ?_ | refine ws_retN ?_ | refine ws_pass ?_ | refine ws_break ?_ | refine ws_cont ?_ | refine wss_nil ?_
  | refine iteT ?_ | refine iteF ?_ | refine exb ?_ | refine exi ?_ | refine exv ?_ | refine exu (by walk_at "up") ?_ | refine wt_call ?_
  | refine we_callK (by assumption) (by with_reducible assumption) (room_le (by assumption) (by decide)) passZ (by walk_at "mem") ?_
  | refine we_call (by assumption) (by with_reducible assumption) (room_le (by assumption) (by decide)) passZ (by walk_at "mem") ?_))

def spYPart (Z : Wd) (C Ct : Addr) : Sp := fun vs H Q _ => ∃ I y a J T row pre l r post ds n lo hi, vs = [.ref y, .int ((pre.length : Nat) : Int)] ∧ Same I H ∧ YardAt Z C Ct I H y a J T row (pre ++ .nd l r :: post) ds ∧ Jok J n ∧ Rok row n ∧ Sq T n lo hi ∧ ds.length < 1000000 ∧
  ∀ I' H', Gr (a.own y) I H I' H' → YardAt Z C Ct I' H' y a J T row (pre ++ l :: r :: post) (ds ++ [(false, ((pre.length : Nat) : Int))]) → Q (.int (cel T (kdT J row l) (kdT J row r))) H'
theorem spl_at0 {α : Type} (pre post : List α) (l : α) : (pre ++ l :: post)[pre.length]? = some l := by simp
theorem fn_Yard_part {Z : Wd} {f C Ct : Addr} {fd : FuncData} (T : Std Z) (K : YarC Z C) (KT : TabC Z Ct) (F2 : FnK Z 2 "is_between" ["value", "low", "high"] 1 ["low", "high"] (spBetween Z)) (M2 : Mth Z 4 Ct "toll" ["self", "left", "right"] (spCell Z Ct false))
    (F : Fun Z.K "part" "Yard.part" s_Yard_part f fd) : FnG Z 5 f fd ["self", "at"] (spYPart Z C Ct) := by
  refine fnG_of F sc_Yard_part ok_Yard_part (fun vs H Q E h => ?_) (fun X H vs Q E B R h => ?_)
  · obtain ⟨I, y, a, J, T, row, pre, l, r, post, ds, n, lo, hi, rfl, _⟩ := h; rfl
  · obtain ⟨I, y, a, J, T', row, pre, l, r, post, ds, n, lo, hi, rfl, s, Y, hJ, hrk, hT, hds, q⟩ := h
    have hr := R.room
    obtain ⟨us, hf, hfd⟩ := Y.fo
    obtain ⟨xs, hk, hko, hhas, hxl⟩ := Y.ki
    obtain ⟨es, hd, hdd⟩ := Y.de
    obtain ⟨dx, rr, pp, ht1, ht2, ht3⟩ := id Y.tab
    have hlv := lv_len Y.lv
    have hmem : Tree.nd l r ∈ pre ++ .nd l r :: post := by simp
    have hlt := hlv.2 _ hmem
    replace hlv := hlv.1
    rw [List.length_append, List.length_cons] at hlv
    have hr8 := hrk.2.1
    rw [Tree.leaves, List.length_append] at hlt
    have hlp := l.leaves_pos
    have hrp := r.leaves_pos
    have hld := l.depth_lt
    have hrd := r.depth_lt
    have hlvs : ∀ i ∈ (Tree.nd l r).leaves, 0 ≤ i ∧ i < (row.length : Int) := fun i hi => upTo_mem (by rw [← Y.lv]; exact List.mem_flatten.mpr ⟨_, List.mem_map.mpr ⟨_, hmem, rfl⟩, hi⟩)
    have kl := kdT_ok hJ hrk.2.2 l fun i hi => hlvs i (by simp [Tree.leaves, hi])
    have kr := kdT_ok hJ hrk.2.2 r fun i hi => hlvs i (by simp [Tree.leaves, hi])
    have hfl := (hhas _ hmem).2
    have hne := Y.ne
    simp only [Ya.own, List.nodup_cons, List.mem_cons, List.not_mem_nil, or_false, not_or, not_false_eq_true, and_true, List.nodup_nil] at hne
    obtain ⟨⟨nyg, nyf, nyk, nyd⟩, ⟨ngf, ngk, ngd⟩, ⟨nfk, nfd⟩, nkd⟩ := hne
    have Iy := Y.fr y (by simp [Ya.own])
    have Ig := Y.fr a.g (by simp [Ya.own])
    have If := Y.fr a.f (by simp [Ya.own])
    have Ik := Y.fr a.k (by simp [Ya.own])
    have Id := Y.fr a.d (by simp [Ya.own])
    have Sy : y ∈ a.own y := by simp [Ya.own]
    have Sg : a.g ∈ a.own y := by simp [Ya.own]
    have Sf : a.f ∈ a.own y := by simp [Ya.own]
    have Sd : a.d ∈ a.own y := by simp [Ya.own]
    have hy := Y.obj
    have hg := Y.go
    obtain ⟨vf, ef, df⟩ := hfd.get (i := pre.length) (d := dTr (.nd l r)) (by rw [List.getElem?_map, spl_at0]; rfl)
    refine wst (σ' := some (.ref y) :: some (.int ((pre.length : Nat) : Int)) :: z_Yard_part) rfl (wss_cons ?_)
    repeat walk_at "y"
    refine we_fldI B K.cl K.n2 ?_
    repeat walk_at "y"
    refine ⟨y, _, _, .ref a.g, rfl, hy, rfl, ?_⟩
    repeat walk_at "y"
    refine co_lenL hg ?_
    rw [List.length_map, List.length_map, List.length_append, List.length_cons]
    repeat walk_at "y"
    refine ⟨rfl, rfl, spBetween_i s (.int _) ?_⟩
    have e : btw (.int ((pre.length : Nat) : Int)) 0 (((pre.length + (post.length + 1) : Nat) : Int) - 1) = true := by simp only [btw, Bool.and_eq_true, decide_eq_true_eq]; omega
    rw [e]
    repeat walk_at "y"
    refine iteF ?_
    repeat walk_at "y"
    refine we_fldI B K.cl K.n3 ?_
    repeat walk_at "y"
    refine ⟨y, _, _, .ref a.f, rfl, hy, rfl, ?_⟩
    repeat walk_at "y"
    refine io_lst hf (atI_pre ef) ?_
    repeat walk_at "y"
    refine iteF ?_
    repeat walk_at "y"
    refine we_fldI B K.cl K.n3 ?_
    repeat walk_at "y"
    refine ⟨y, _, _, .ref a.f, rfl, hy, rfl, ?_⟩
    repeat walk_at "y"
    refine io_lst hf (atI_pre ef) ?_
    repeat walk_at "y"
    refine ws_par2 B 3 4 ?_
    refine wa_cons ?_
    obtain ⟨j1, kv1, hj1⟩ := hko.get hfl.1.top
    obtain ⟨j2, kv2, hj2⟩ := hko.get hfl.2.top
    repeat walk_at "y"
    refine we_fldI B K.cl K.n4 ?_
    repeat walk_at "y"
    refine ⟨y, _, _, .ref a.k, rfl, hy, rfl, ?_⟩
    repeat walk_at "y"
    refine io_T B s df (atI_nn (by decide) rfl) fun v1 hv1 => ?_
    refine io_mx B hr hk (hko.mxk s hv1 (by omega)) hj1 ?_
    repeat walk_at "y"
    refine we_fldI B K.cl K.n4 ?_
    repeat walk_at "y"
    refine ⟨y, _, _, .ref a.k, rfl, hy, rfl, ?_⟩
    repeat walk_at "y"
    refine io_T B s df (atI_nn (by decide) rfl) fun v2 hv2 => ?_
    refine io_mx B hr hk (hko.mxk s hv2 (by omega)) hj2 ?_
    refine wa_nil ⟨_, _, _, _, rfl, by decide, by walk_at "up", by walk_at "up", ?_⟩
    -- toll
    repeat walk_at "y"
    refine we_meth B M2 (room_le hr (by decide)) passZ ?_
    refine we_fldI B K.cl K.n1 ?_
    repeat walk_at "y"
    refine ⟨y, _, _, .ref a.t, rfl, hy, rfl, ?_⟩
    refine ⟨a.t, dx, _, rfl, s _ _ ht1, rfl, ?_⟩
    repeat walk_at "y"
    refine ⟨I, a.t, J, T', n, _, _, lo, hi, rfl, s, Y.tab, hJ, hT, kl.1, kl.2, kr.1, kr.2, ?_⟩
    repeat walk_at "y"
    -- goods
    refine ws_asg ?_
    repeat walk_at "y"
    refine ⟨le_line (by decide : (2 : Nat) ≤ 16777216), fun b hb => ?_⟩
    refine wg_cut ?_
    refine we_fldI B K.cl K.n2 ?_
    repeat walk_at "y"
    refine ⟨y, _, _, .ref a.g, rfl, ukeepN hy hb, rfl, ?_⟩
    repeat walk_at "y"
    refine ⟨a.g, b, _, _, _, _, rfl, rfl, rfl, rfl, ukeepN hg hb, upd_same, ne_none hg hb, by omega, by omega, by rw [List.length_map, List.length_map, List.length_append, List.length_cons]; omega, by rw [List.length_map, List.length_map, List.length_append, List.length_cons]; simp only [List.length_cons, List.length_nil]; omega, ?_⟩
    have eg : (((pre ++ .nd l r :: post).map (kdT J row)).map V.int).take ((pre.length : Nat) : Int).toNat ++ [V.int (kdT J row l), V.int (kdT J row r)] ++ (((pre ++ .nd l r :: post).map (kdT J row)).map V.int).drop (((pre.length : Nat) : Int) + 1).toNat = ((pre ++ l :: r :: post).map (kdT J row)).map V.int := by
      rw [Int.toNat_natCast, show (((pre.length : Nat) : Int) + 1).toNat = pre.length + 1 by omega, ← List.map_take, ← List.map_take, ← List.map_drop, ← List.map_drop, spl_take, spl_drop1]
      rw [List.map_append, List.map_append, List.map_cons, List.map_cons, List.map_cons, List.map_cons, List.append_assoc]; rfl
    rw [eg]
    have G2 := ((Gr.refl s (S := a.own y)).tmp (o := .lst [V.int (kdT J row l), V.int (kdT J row r)]) hb).mut (o := .lst (((pre ++ l :: r :: post).map (kdT J row)).map V.int)) Ig (.inl Sg)
    replace hy := ukeep (o' := .lst (((pre ++ l :: r :: post).map (kdT J row)).map V.int)) (ukeepN (o' := .lst [V.int (kdT J row l), V.int (kdT J row r)]) hy hb) nyg
    replace hf := ukeep (o' := .lst (((pre ++ l :: r :: post).map (kdT J row)).map V.int)) (ukeepN (o' := .lst [V.int (kdT J row l), V.int (kdT J row r)]) hf hb) (Ne.symm ngf)
    replace hk := ukeep (o' := .lst (((pre ++ l :: r :: post).map (kdT J row)).map V.int)) (ukeepN (o' := .lst [V.int (kdT J row l), V.int (kdT J row r)]) hk hb) (Ne.symm ngk)
    replace hd := ukeep (o' := .lst (((pre ++ l :: r :: post).map (kdT J row)).map V.int)) (ukeepN (o' := .lst [V.int (kdT J row l), V.int (kdT J row r)]) hd hb) (Ne.symm ngd)
    replace hg := upd_same (H := upd H b (.lst [V.int (kdT J row l), V.int (kdT J row r)])) (a := a.g) (o := .lst (((pre ++ l :: r :: post).map (kdT J row)).map V.int))
    generalize upd (upd H b (.lst [V.int (kdT J row l), V.int (kdT J row r)])) a.g (.lst (((pre ++ l :: r :: post).map (kdT J row)).map V.int)) = H2 at G2 hy hg hf hk hd ⊢
    -- forms
    repeat walk_at "y"
    refine ws_asg ?_
    refine we_callTy B (by walk_at "mem") T.list b_list (wa_cons ?_)
    repeat walk_at "y"
    refine co_list B G2.sub (.inr df) fun b2 ws hb2 hws => ?_
    refine wg_cut ?_
    refine we_fldI B K.cl K.n3 ?_
    repeat walk_at "y"
    refine ⟨y, _, _, .ref a.f, rfl, ukeepN hy hb2, rfl, ?_⟩
    repeat walk_at "y"
    have hul : us.length = pre.length + (post.length + 1) := by rw [hfd.len, List.length_map, List.length_append, List.length_cons]
    have hwl : ws.length = 2 := hws.len
    refine ⟨a.f, b2, _, _, _, _, rfl, rfl, rfl, rfl, ukeepN hf hb2, upd_same, ne_none hf hb2, by omega, by omega, by omega, by omega, ?_⟩
    have hfd2 : DpAll Z.K I (us.take ((pre.length : Nat) : Int).toNat ++ ws ++ us.drop (((pre.length : Nat) : Int) + 1).toNat) ((pre ++ l :: r :: post).map dTr) := by
      have t1 := hfd.take pre.length
      have t2 := hfd.drop (pre.length + 1)
      rw [← List.map_take, spl_take] at t1
      rw [← List.map_drop, spl_drop1] at t2
      rw [Int.toNat_natCast, show (((pre.length : Nat) : Int) + 1).toNat = pre.length + 1 by omega, List.map_append, List.map_cons, List.map_cons, List.append_assoc]
      exact t1.app (hws.app t2)
    generalize us.take ((pre.length : Nat) : Int).toNat ++ ws ++ us.drop (((pre.length : Nat) : Int) + 1).toNat = us2 at hfd2 ⊢
    have G3 := (G2.tmp (o := .lst ws) hb2).mut (o := .lst us2) If (.inl Sf)
    replace hy := ukeep (o' := .lst us2) (ukeepN (o' := .lst ws) hy hb2) nyf
    replace hg := ukeep (o' := .lst us2) (ukeepN (o' := .lst ws) hg hb2) ngf
    replace hk := ukeep (o' := .lst us2) (ukeepN (o' := .lst ws) hk hb2) (Ne.symm nfk)
    replace hd := ukeep (o' := .lst us2) (ukeepN (o' := .lst ws) hd hb2) (Ne.symm nfd)
    replace hf := upd_same (H := upd H2 b2 (.lst ws)) (a := a.f) (o := .lst us2)
    generalize upd (upd H2 b2 (.lst ws)) a.f (.lst us2) = H3 at G3 hy hg hf hk hd ⊢
    -- total
    repeat walk_at "y"
    refine ws_fldaug ?_
    repeat walk_at "y"
    refine ⟨y, C, _, _, _, rfl, hy, B.cls K.cl, B.noa K.n5, rfl, ?_⟩
    repeat walk_at "y"
    refine bo_isub ⟨_, _, hy, of_decide_eq_true rfl, ?_⟩
    have et : totF J T' row (pre ++ .nd l r :: post) - cel T' (kdT J row l) (kdT J row r) = totF J T' row (pre ++ l :: r :: post) := by
      unfold totF
      simp only [List.map_append, List.map_cons, List.sum_append, List.sum_cons, coT]
      omega
    have ef : putF "total" (V.int (totF J T' row (pre ++ .nd l r :: post) - cel (if false = true then J else T') (kdT J row l) (kdT J row r))) (yFs a (totF J T' row (pre ++ .nd l r :: post))) = yFs a (totF J T' row (pre ++ l :: r :: post)) := by
      rw [← et]; rfl
    rw [ef]
    have G5 := G3.mut (o := .ins C a.dx (yFs a (totF J T' row (pre ++ l :: r :: post)))) Iy (.inl Sy)
    replace hg := ukeep (o' := .ins C a.dx (yFs a (totF J T' row (pre ++ l :: r :: post)))) hg (Ne.symm nyg)
    replace hf := ukeep (o' := .ins C a.dx (yFs a (totF J T' row (pre ++ l :: r :: post)))) hf (Ne.symm nyf)
    replace hk := ukeep (o' := .ins C a.dx (yFs a (totF J T' row (pre ++ l :: r :: post)))) hk (Ne.symm nyk)
    replace hd := ukeep (o' := .ins C a.dx (yFs a (totF J T' row (pre ++ l :: r :: post)))) hd (Ne.symm nyd)
    replace hy := upd_same (H := H3) (a := y) (o := .ins C a.dx (yFs a (totF J T' row (pre ++ l :: r :: post))))
    generalize upd H3 y (.ins C a.dx (yFs a (totF J T' row (pre ++ l :: r :: post)))) = H5 at G5 hy hg hf hk hd ⊢
    -- deeds
    repeat walk_at "y"
    refine we_append ?_
    refine we_fldI B K.cl K.n6 ?_
    repeat walk_at "y"
    refine ⟨y, _, _, .ref a.d, rfl, hy, rfl, ?_⟩
    refine ⟨a.d, es, rfl, hd, ?_⟩
    refine we_tup ?_
    repeat walk_at "y"
    refine ⟨le_line (by decide : (2 : Nat) ≤ 16777216), fun t2 ht2' => ?_⟩
    have hel : es.length = ds.length := by rw [hdd.len, List.length_map]
    refine ⟨es, ukeepN hd ht2', by omega, ?_⟩
    have G6 := (G5.new (o := .tup [.str "part", .int ((pre.length : Nat) : Int)]) ht2').mut (p := a.d) (o := .lst (es ++ [.ref t2])) (by rw [upd_ne (ne_none hd ht2')]; exact Id) (.inl Sd)
    repeat walk_at "y"
    have h12 : Same I (upd I t2 (.tup [.str "part", .int ((pre.length : Nat) : Int)])) := same_upd G5.sub ht2'
    refine q _ _ G6 ⟨?_, tab_mono h12 Y.tab, ?_, ⟨us2, ?_, dps_mono h12 hfd2⟩, ⟨xs, ?_, hko.mono h12, ?_, by rw [List.length_append]; omega⟩, ⟨es ++ [.ref t2], upd_same, ?_⟩, ?_, ?_, Y.ne⟩
    · exact ukeep (ukeepN hy ht2') nyd
    · exact ukeep (ukeepN hg ht2') ngd
    · exact ukeep (ukeepN hf ht2') nfd
    · exact ukeep (ukeepN hk ht2') nkd
    · intro t ht
      rcases List.mem_append.mp ht with ht | ht
      · exact hhas t (List.mem_append_left _ ht)
      · rcases List.mem_cons.mp ht with ht | ht
        · subst ht; exact hfl.1
        · rcases List.mem_cons.mp ht with ht | ht
          · subst ht; exact hfl.2
          · exact hhas t (by simp [ht])
    · rw [List.map_append]
      exact (dps_mono h12 hdd).app (.cons (dT_of upd_same (.cons (.str _) (.cons (.int _) .nil))) .nil)
    · rw [← Y.lv]
      simp only [List.map_append, List.map_cons, List.flatten_append, List.flatten_cons, Tree.leaves, List.append_assoc]
    · intro z hz
      have hz0 : I z = none := Y.fr z hz
      have hzt : z ≠ t2 := by
        simp only [Ya.own, List.mem_cons, List.not_mem_nil, or_false] at hz
        rcases hz with e | e | e | e | e <;> subst e
        · exact ne_none hy ht2'
        · exact ne_none hg ht2'
        · exact ne_none hf ht2'
        · exact ne_none hk ht2'
        · exact ne_none hd ht2'
      rw [upd_ne hzt]; exact hz0
end Y

namespace Y
open PySem PySem.Spec PyProof.Rows L2
/-- membership, slots -/
local macro_rules | `(tactic| walk_at "mem") => `(tactic| (repeat (first | with_reducible exact List.mem_cons_self | with_reducible apply List.mem_cons_of_mem)))
local macro_rules | `(tactic| walk_at "at") => `(tactic| (repeat (first | with_reducible exact At2.z | with_reducible apply At2.s)))
local macro_rules | `(tactic| walk_at "up") => `(tactic| (repeat (first | with_reducible exact Up2.z | with_reducible apply Up2.s)))
local macro_rules | `(tactic| walk_at "upf") => `(tactic| (intro _; (repeat (first | with_reducible exact Up2.z | with_reducible apply Up2.s))))
local macro_rules | `(tactic| walk_at "sub") => `(tactic| (with_reducible first | assumption | exact Gr.sub (by assumption)))
/-- one step -/
local macro_rules | `(tactic| walk_at "y") => `(tactic| (with_reducible first
  | refine wss_cons ?_ | refine we_cst (by assumption) (by walk_at "mem") (by with_reducible assumption) ?_ | refine we_var (by assumption) (by walk_at "at") ?_ | refine we_int ?_ | refine we_negC ?_ | refine we_bl ?_ | refine we_non ?_ | refine we_str ?_
  | refine wa_cons ?_ | refine wa_nil ?_ | refine wk_cons ?_ | refine wk_nil ?_
  | refine we_ty (by assumption) (by walk_at "mem") (Std.int (by assumption)) b_int ?_ | refine we_ty (by assumption) (by walk_at "mem") (Std.bool (by assumption)) b_bool ?_
  | refine we_ty (by assumption) (by walk_at "mem") (Std.list (by assumption)) b_list ?_ | refine we_ty (by assumption) (by walk_at "mem") (Std.tuple (by assumption)) b_tuple ?_ | refine we_ty (by assumption) (by walk_at "mem") (Std.str (by assumption)) b_str ?_
  | refine we_bin ?_ | refine bo_add ?_ | refine bo_sub ?_ | refine bo_lt ?_ | refine bo_le ?_ | refine bo_gt ?_ | refine bo_ge ?_ | refine bo_eqI ?_ | refine bo_neI ?_ | refine bo_eqS ?_ | refine bo_neS ?_ | refine bo_eqB ?_ | refine bo_neB ?_ | refine bo_isN ?_ | refine bo_notN ?_
  | refine we_cmp ?_ | refine we_and ?_ | refine we_or ?_ | refine we_one ?_ | refine we_not ?_ | refine we_if ?_ | refine we_chain ?_
  | refine wt_cmp ?_ | refine wt_not ?_ | refine wt_bool ?_ | refine ww_and ?_ | refine ww_or ?_ | refine ww_and1 ?_ | refine ww_or1 ?_ | refine wt_chain ?_
  | refine we_callB (by assumption) (by walk_at "mem") (Std.isinstance (by assumption)) b_isinstance ?_ | refine we_callB (by assumption) (by walk_at "mem") (Std.len (by assumption)) b_len ?_
  | refine we_callTy (by assumption) (by walk_at "mem") (Std.int (by assumption)) b_int ?_
  | refine isi_int (by assumption) (by walk_at "sub") (by assumption) ?_ | refine isi_bool (by assumption) (by walk_at "sub") (by assumption) ?_ | refine isi_list (by assumption) (by walk_at "sub") (by assumption) ?_ | refine isi_tup (by assumption) (by walk_at "sub") (by assumption) ?_ | refine isi_str (by assumption) (by walk_at "sub") (by assumption) ?_
  | refine co_int ?_ | refine co_intB ?_
  | refine we_tup ?_ | refine we_lst ?_ | refine we_ix ?_ | refine we_slice ?_ | refine wo_none ?_ | refine wo_some ?_
  | refine ws_set (by assumption) ?_ | refine ws_ret ?_ | refine ws_if ?_ | refine ws_expr ?_ | refine ws_retN ?_ | refine ws_pass ?_ | refine ws_break ?_ | refine ws_cont ?_ | refine wss_nil ?_
  | refine iteT ?_ | refine iteF ?_ | refine exb ?_ | refine exi ?_ | refine exv ?_ | refine exu (by walk_at "up") ?_ | refine wt_call ?_
  | refine we_callK (by assumption) (by with_reducible assumption) (room_le (by assumption) (by decide)) passZ (by walk_at "mem") ?_
  | refine we_call (by assumption) (by with_reducible assumption) (room_le (by assumption) (by decide)) passZ (by walk_at "mem") ?_))

/-! ### the law's own defs -/
def spCellAt (Z : Wd) : Sp := fun vs H Q _ => ∃ I v ns k, vs = [v, .int ((k : Nat) : Int)] ∧ Same I H ∧ Dp Z.K I v (dI ns) ∧ ∀ z : Int, Q (.int z) H
theorem fn_cell_at {Z : Wd} {f : Addr} {fd : FuncData} (T : Std Z) (F : Fun Z.K "_law_cell_at" "_law_cell_at" s_cell_at f fd) : FnG Z 1 f fd ["_law_script", "_law_k"] (spCellAt Z) := by
  refine fnG_of F sc_cell_at ok_cell_at (fun vs H Q E h => ?_) (fun X H vs Q E B R h => ?_)
  · obtain ⟨I, v, ns, k, rfl, _⟩ := h; rfl
  · obtain ⟨I, v, ns, k, rfl, s, hv, q⟩ := h
    refine wst (σ' := some v :: some (.int ((k : Nat) : Int)) :: z_cell_at) rfl (wss_cons ?_)
    repeat walk_at "y"
    refine co_len B s (.inl hv) ?_
    rw [List.length_map]
    repeat walk_at "y"
    refine ifd (fun h => ?_) (fun _ => ?_)
    · repeat walk_at "y"
      refine io_L B s hv (atI_pre (x := .int (it ns k)) (by rw [List.getElem?_map, it_get (by omega)]; rfl)) fun u hu => ?_
      cases hu
      exact q _
    · repeat walk_at "y"
      exact q _
def WellAt (H : Hp) (w : Addr) (k : Nat) : Prop := ∃ a b c : Int, H w = some (.lst [.int a, .int b, .int c]) ∧ 0 ≤ c ∧ c ≤ (k : Int)
theorem WellAt.keep {H H' : Hp} {w : Addr} {k : Nat} (h : WellAt H w k) (e : ∀ o, H w = some o → H' w = some o) : WellAt H' w k := by
  obtain ⟨a, b, c, h1, h2⟩ := h; exact ⟨a, b, c, e _ h1, h2⟩
theorem WellAt.le {H : Hp} {w : Addr} {k k' : Nat} (h : WellAt H w k) (hk : k ≤ k') : WellAt H w k' := by
  obtain ⟨a, b, c, h1, h2, h3⟩ := h; exact ⟨a, b, c, h1, h2, by omega⟩
theorem WellAt.ne {H : Hp} {w : Addr} {k : Nat} (h : WellAt H w k) : H w ≠ none := by obtain ⟨a, b, c, h1, _⟩ := h; rw [h1]; simp
def spWell (Z : Wd) : Sp := fun vs H Q _ => ∃ I c, vs = [.int c] ∧ Same I H ∧ ∀ w H', Gr [] I H I H' → H w = none → I w = none → WellAt H' w 0 → Q (.ref w) H'
theorem fn_well {Z : Wd} {f : Addr} {fd : FuncData} (T : Std Z) (F : Fun Z.K "_law_well" "_law_well" s_well f fd) : FnG Z 1 f fd ["_law_cell"] (spWell Z) := by
  refine fnG_of F sc_well ok_well (fun vs H Q E h => ?_) (fun X H vs Q E B R h => ?_)
  · obtain ⟨I, c, rfl, _⟩ := h; rfl
  · obtain ⟨I, c, rfl, s, q⟩ := h
    refine wst (σ' := some (.int c) :: z_well) rfl (wss_cons ?_)
    repeat walk_at "y"
    refine ⟨le_line (by decide : (2 : Nat) ≤ 16777216), fun l hl => ?_⟩
    refine we_callTy B (by walk_at "mem") T.int b_int (wa_cons ?_)
    repeat walk_at "y"
    refine bo_pow ⟨by decide, by decide, by decide⟩ ?_
    repeat walk_at "y"
    have g1 := (Gr.refl s (S := [])).tmp (o := .lst [.int 0, .int c]) hl
    have key : ∀ z : Int, (∀ w, upd H l (.lst [.int 0, .int c]) w = none → Q (.ref w) (upd (upd H l (.lst [.int 0, .int c])) w (.lst [.int z, .int c, .int 0]))) := fun z w hw => q w _ (g1.tmp hw) (g1.dom w hw) (g1.out' hw) ⟨z, c, 0, upd_same, by decide, by decide⟩
    by_cases hb : c ≥ 10 ^ (18 : Int).toNat
    · rw [decide_eq_true hb]
      refine io_lst (v := .int c) upd_same rfl ?_
      repeat walk_at "y"
      refine ⟨le_line (by decide : (3 : Nat) ≤ 16777216), fun w hw => key c w hw⟩
    · rw [decide_eq_false hb]
      refine io_lst (v := .int 0) upd_same rfl ?_
      repeat walk_at "y"
      refine ⟨le_line (by decide : (3 : Nat) ≤ 16777216), fun w hw => key 0 w hw⟩
def spDraw (Z : Wd) : Sp := fun vs H Q _ => ∃ I w m k, vs = [.ref w, .int m] ∧ Same I H ∧ I w = none ∧ WellAt H w k ∧ k < 1000000 ∧ 0 < m ∧ m < 2 ^ 62 ∧ ∀ z H', 0 ≤ z → z < m → Gr [w] I H I H' → WellAt H' w (k + 1) → Q (.int z) H'
theorem fn_draw {Z : Wd} {f : Addr} {fd : FuncData} (T : Std Z) (F : Fun Z.K "_law_draw" "_law_draw" s_draw f fd) : FnG Z 1 f fd ["_law_well_here", "_law_many"] (spDraw Z) := by
  refine fnG_of F sc_draw ok_draw (fun vs H Q E h => ?_) (fun X H vs Q E B R h => ?_)
  · obtain ⟨I, w, m, k, rfl, _⟩ := h; rfl
  · obtain ⟨I, w, m, k, rfl, s, hwI, ⟨a, b, c, hw, c0, ck⟩, hk, m0, m1, q⟩ := h
    refine wst (σ' := some (.ref w) :: some (.int m) :: z_draw) rfl (wss_cons ?_)
    repeat walk_at "y"
    refine io_lst (v := .int a) hw rfl ?_
    repeat walk_at "y"
    refine ifd (fun _ => ?_) (fun _ => ?_)
    · repeat walk_at "y"
      refine io_lst (v := .int a) hw rfl ?_
      repeat walk_at "y"
      refine bo_mod m0 ?_
      repeat walk_at "y"
      refine ws_asg ?_
      repeat walk_at "y"
      refine io_lst (v := .int a) hw rfl ?_
      repeat walk_at "y"
      refine bo_div m0 (by omega) ?_
      refine wg_sub ?_
      repeat walk_at "y"
      refine se_lst (ys := [.int (a / m), .int b, .int c]) hw rfl rfl ?_
      repeat walk_at "y"
      exact q _ _ (Int.emod_nonneg _ (by omega)) (Int.emod_lt_of_pos _ m0) ((Gr.refl s).mut hwI (.inl (by simp))) ⟨_, _, _, upd_same, c0, by omega⟩
    · repeat walk_at "y"
      refine ws_asg ?_
      repeat walk_at "y"
      refine io_lst (v := .int c) hw rfl ?_
      repeat walk_at "y"
      refine wg_sub ?_
      repeat walk_at "y"
      refine se_lst (ys := [.int a, .int b, .int (c + 1)]) hw rfl rfl ?_
      have g1 := (Gr.refl s).mut (S := [w]) (o := .lst [.int a, .int b, .int (c + 1)]) hwI (.inl (by simp))
      have hw1 := upd_same (H := H) (a := w) (o := .lst [.int a, .int b, .int (c + 1)])
      generalize upd H w (.lst [.int a, .int b, .int (c + 1)]) = H1 at g1 hw1 ⊢
      repeat walk_at "y"
      refine io_lst (v := .int b) hw1 rfl ?_
      repeat walk_at "y"
      refine bo_div (by decide) (by decide) ?_
      repeat walk_at "y"
      refine bo_mod (by decide) ?_
      have e1 := Int.emod_nonneg (b / 2147483629) (b := 65521) (by decide)
      have e2 := Int.emod_lt_of_pos (b / 2147483629) (b := 65521) (by decide)
      generalize b / 2147483629 % 65521 = salt at e1 e2 ⊢
      repeat walk_at "y"
      refine io_lst (v := .int b) hw1 rfl ?_
      repeat walk_at "y"
      refine bo_mod (by decide) ?_
      have e3 := Int.emod_nonneg b (b := 2147483629) (by decide)
      have e4 := Int.emod_lt_of_pos b (b := 2147483629) (by decide)
      generalize b % 2147483629 = b1 at e3 e4 ⊢
      repeat walk_at "y"
      refine io_lst (v := .int (c + 1)) hw1 rfl ?_
      refine bo_mul (.inl ⟨by decide, by decide⟩) ?_
      repeat walk_at "y"
      refine bo_pow ⟨by decide, by decide, by omega⟩ ?_
      repeat walk_at "y"
      refine bo_mod (by decide) ?_
      have e5 := Int.emod_nonneg ((b1 + 7919 * (c + 1) + salt + 1) ^ (5 : Int).toNat) (b := 2147483647) (by decide)
      have e6 := Int.emod_lt_of_pos ((b1 + 7919 * (c + 1) + salt + 1) ^ (5 : Int).toNat) (b := 2147483647) (by decide)
      generalize (b1 + 7919 * (c + 1) + salt + 1) ^ (5 : Int).toNat % 2147483647 = num at e5 e6 ⊢
      repeat walk_at "y"
      refine bo_div (by decide) (by decide) ?_
      repeat walk_at "y"
      refine io_lst (v := .int (c + 1)) hw1 rfl ?_
      repeat walk_at "y"
      refine bo_mul (.inl ⟨by omega, by omega⟩) ?_
      repeat walk_at "y"
      refine bo_mod (by decide) ?_
      have e7 := Int.emod_nonneg (num * (num / 1009 + 69621 + (c + 1))) (b := 2147483629) (by decide)
      have e8 := Int.emod_lt_of_pos (num * (num / 1009 + 69621 + (c + 1))) (b := 2147483629) (by decide)
      generalize num * (num / 1009 + 69621 + (c + 1)) % 2147483629 = num2 at e7 e8 ⊢
      repeat walk_at "y"
      refine bo_div (by decide) (by decide) ?_
      repeat walk_at "y"
      refine bo_mul (.inl ⟨by omega, by omega⟩) ?_
      repeat walk_at "y"
      refine bo_mod (by decide) ?_
      repeat walk_at "y"
      refine bo_mod m0 ?_
      exact q _ _ (Int.emod_nonneg _ (by omega)) (Int.emod_lt_of_pos _ m0) g1 ⟨_, _, _, hw1, by omega, by omega⟩
def spOne (Z : Wd) : Sp := fun vs H Q _ => ∃ I w v ds k, vs = [.ref w, v] ∧ Same I H ∧ I w = none ∧ WellAt H w k ∧ k < 1000000 ∧ Dp Z.K I v (.list ds) ∧ 0 < ds.length ∧ ds.length < 1000000 ∧ ∀ d u H', d ∈ ds → Dp Z.K I u d → Gr [w] I H I H' → WellAt H' w (k + 1) → Q u H'
theorem fn_one {Z : Wd} {f : Addr} {fd : FuncData} (T : Std Z) (F1 : Fn Z 1 "_law_draw" ["_law_well_here", "_law_many"] (spDraw Z)) (F : Fun Z.K "_law_one" "_law_one" s_one f fd) : FnG Z 2 f fd ["_law_well_here", "_law_some"] (spOne Z) := by
  refine fnG_of F sc_one ok_one (fun vs H Q E h => ?_) (fun X H vs Q E B R h => ?_)
  · obtain ⟨I, w, v, ds, k, rfl, _⟩ := h; rfl
  · obtain ⟨I, w, v, ds, k, rfl, s, hwI, hw, hk, hv, d0, d1, q⟩ := h
    have hr := R.room
    refine wst (σ' := some (.ref w) :: some v :: z_one) rfl (wss_cons ?_)
    repeat walk_at "y"
    refine co_len B s (.inl hv) ?_
    repeat walk_at "y"
    refine ⟨I, w, _, k, rfl, s, hwI, hw, hk, by omega, by omega, fun z H' z0 z1 g hw' => ?_⟩
    have hz : z.toNat < ds.length := by omega
    refine io_L B g.sub hv (atI_nn z0 (List.getElem?_eq_getElem hz)) fun u hu => ?_
    exact q _ u H' (List.getElem_mem hz) hu g hw'
end Y

namespace Y
open PySem PySem.Spec PyProof.Rows L2
/-- membership, slots -/
local macro_rules | `(tactic| walk_at "mem") => `(tactic| (repeat (first | with_reducible exact List.mem_cons_self | with_reducible apply List.mem_cons_of_mem)))
local macro_rules | `(tactic| walk_at "at") => `(tactic| (repeat (first | with_reducible exact At2.z | with_reducible apply At2.s)))
local macro_rules | `(tactic| walk_at "up") => `(tactic| (repeat (first | with_reducible exact Up2.z | with_reducible apply Up2.s)))
local macro_rules | `(tactic| walk_at "upf") => `(tactic| (intro _; (repeat (first | with_reducible exact Up2.z | with_reducible apply Up2.s))))
local macro_rules | `(tactic| walk_at "sub") => `(tactic| (with_reducible first | assumption | exact Gr.sub (by assumption)))
/-- one step -/
local macro_rules | `(tactic| walk_at "y") => `(tactic| (with_reducible first
  | refine wss_cons ?_ | refine we_cst (by assumption) (by walk_at "mem") (by with_reducible assumption) ?_ | refine we_var (by assumption) (by walk_at "at") ?_ | refine we_int ?_ | refine we_negC ?_ | refine we_bl ?_ | refine we_non ?_ | refine we_str ?_
  | refine wa_cons ?_ | refine wa_nil ?_ | refine wk_cons ?_ | refine wk_nil ?_
  | refine we_ty (by assumption) (by walk_at "mem") (Std.int (by assumption)) b_int ?_ | refine we_ty (by assumption) (by walk_at "mem") (Std.bool (by assumption)) b_bool ?_
  | refine we_ty (by assumption) (by walk_at "mem") (Std.list (by assumption)) b_list ?_ | refine we_ty (by assumption) (by walk_at "mem") (Std.tuple (by assumption)) b_tuple ?_ | refine we_ty (by assumption) (by walk_at "mem") (Std.str (by assumption)) b_str ?_
  | refine we_bin ?_ | refine bo_add ?_ | refine bo_sub ?_ | refine bo_lt ?_ | refine bo_le ?_ | refine bo_gt ?_ | refine bo_ge ?_ | refine bo_eqI ?_ | refine bo_neI ?_ | refine bo_eqS ?_ | refine bo_neS ?_ | refine bo_eqB ?_ | refine bo_neB ?_ | refine bo_isN ?_ | refine bo_notN ?_
  | refine we_cmp ?_ | refine we_and ?_ | refine we_or ?_ | refine we_one ?_ | refine we_not ?_ | refine we_if ?_ | refine we_chain ?_
  | refine wt_cmp ?_ | refine wt_not ?_ | refine wt_bool ?_ | refine ww_and ?_ | refine ww_or ?_ | refine ww_and1 ?_ | refine ww_or1 ?_ | refine wt_chain ?_
  | refine we_callB (by assumption) (by walk_at "mem") (Std.isinstance (by assumption)) b_isinstance ?_ | refine we_callB (by assumption) (by walk_at "mem") (Std.len (by assumption)) b_len ?_
  | refine we_callTy (by assumption) (by walk_at "mem") (Std.int (by assumption)) b_int ?_
  | refine isi_int (by assumption) (by walk_at "sub") (by assumption) ?_ | refine isi_bool (by assumption) (by walk_at "sub") (by assumption) ?_ | refine isi_list (by assumption) (by walk_at "sub") (by assumption) ?_ | refine isi_tup (by assumption) (by walk_at "sub") (by assumption) ?_ | refine isi_str (by assumption) (by walk_at "sub") (by assumption) ?_
  | refine co_int ?_ | refine co_intB ?_
  | refine we_tup ?_ | refine we_lst ?_ | refine we_ix ?_ | refine we_slice ?_ | refine wo_none ?_ | refine wo_some ?_
  | refine ws_set (by assumption) ?_ | refine ws_ret ?_ | refine ws_if ?_ | refine ws_expr ?_ | refine ws_retN ?_ | refine ws_pass ?_ | refine ws_break ?_ | refine ws_cont ?_ | refine wss_nil ?_
  | refine iteT ?_ | refine iteF ?_ | refine exb ?_ | refine exi ?_ | refine exv ?_ | refine exu (by walk_at "up") ?_ | refine wt_call ?_
  | refine we_callK (by assumption) (by with_reducible assumption) (room_le (by assumption) (by decide)) passZ (by walk_at "mem") ?_
  | refine we_call (by assumption) (by with_reducible assumption) (room_le (by assumption) (by decide)) passZ (by walk_at "mem") ?_))

theorem WellAt.out {S : List Addr} {I H I1 H1 : Hp} {w : Addr} {k : Nat} (h : WellAt H w k) (g : Gr S I H I1 H1) (hI : I w = none) : I1 w = none := by
  obtain ⟨a, b, c, e, _⟩ := h
  exact g.out hI e
theorem stab_well {w : Addr} {f : Nat → Nat} {P : Nat → List PyData → Prop} : Stab [w] (fun i ds _ H => WellAt H w (f i) ∧ P i ds) := fun i ds I H D o hD hI h => ⟨h.1.keep fun o' e => by rw [upd_ne (fun z => hD (by rw [← z]; simp))]; exact e, h.2⟩
theorem inS {w : Addr} {H : Hp} {k : Nat} (h : WellAt H w k) : ∀ p ∈ [w], H p ≠ none := fun p hp => by rw [List.mem_singleton] at hp; subst hp; exact h.ne
/-- ints of a comprehension -/
def IsInts (P : Int → Prop) (i : Nat) (ds : List PyData) : Prop := ∃ ns : List Int, ds = ns.map PyData.int ∧ ns.length = i ∧ ∀ x ∈ ns, P x
theorem IsInts.nil {P : Int → Prop} : IsInts P 0 [] := ⟨[], rfl, rfl, fun _ h => by cases h⟩
theorem IsInts.snoc {P : Int → Prop} {i : Nat} {ds : List PyData} {x : Int} (h : IsInts P i ds) (hx : P x) : IsInts P (i + 1) (ds ++ [.int x]) := by
  obtain ⟨ns, rfl, h2, h3⟩ := h
  refine ⟨ns ++ [x], by rw [List.map_append]; rfl, by rw [List.length_append, h2]; rfl, fun y hy => ?_⟩
  rcases List.mem_append.mp hy with hy | hy
  · exact h3 y hy
  · rw [List.mem_singleton] at hy; subst hy; exact hx
def spLRow (Z : Wd) : Sp := fun vs H Q _ => ∃ I w n most k, vs = [.ref w, .int ((n : Nat) : Int), .int ((most : Nat) : Int)] ∧ Same I H ∧ I w = none ∧ WellAt H w k ∧ k < 100000 ∧ 1 ≤ n ∧ n ≤ 5 ∧ 1 ≤ most ∧ most ≤ 8 ∧ ∀ u row I' H', 1 ≤ row.length → row.length ≤ most → (∀ x ∈ row, 1 ≤ x ∧ x ≤ (n : Int)) → Gr [w] I H I' H' → WellAt H' w (k + 9) → Dp Z.K I' u (dI row) → Q u H'
theorem fn_row {Z : Wd} {f : Addr} {fd : FuncData} (T : Std Z) (F1 : Fn Z 1 "_law_draw" ["_law_well_here", "_law_many"] (spDraw Z)) (F : Fun Z.K "_law_row" "_law_row" s_row f fd) : FnG Z 2 f fd ["_law_well_here", "_law_n", "_law_most"] (spLRow Z) := by
  refine fnG_of F sc_row ok_row (fun vs H Q E h => ?_) (fun X H vs Q E B R h => ?_)
  · obtain ⟨I, w, n, most, k, rfl, _⟩ := h; rfl
  · obtain ⟨I, w, n, most, k, rfl, s, hwI, hw, hk, n1, n5, m1, m8, q⟩ := h
    have hr := R.room
    refine wst (σ' := some (.ref w) :: some (.int ((n : Nat) : Int)) :: some (.int ((most : Nat) : Int)) :: z_row) rfl (wss_cons ?_)
    repeat walk_at "y"
    refine we_lc (own := oc0_row) B (by decide +kernel) (wi_range1 B (by walk_at "mem") T.range ?_)
    repeat walk_at "y"
    refine ⟨I, w, _, k, rfl, s, hwI, hw, by omega, by omega, by omega, fun z H1 z0 z1 g1 hw1 => ?_⟩
    repeat walk_at "y"
    refine ⟨by omega, by omega, ?_⟩
    refine li_mapR (S := [w]) (M' := mc0_row) (G' := gc0_row) (I0 := I) (σ0 := [some (.ref w), some (.int ((n : Nat) : Int)), some (.int ((most : Nat) : Int)), none]) (fun i ds _ H => WellAt H w (k + 1 + i) ∧ IsInts (fun x => 1 ≤ x ∧ x ≤ (n : Int)) i ds) B (by decide +kernel) g1.sub (inS hw1) stab_well (by omega) ⟨hw1, .nil⟩ rfl
      (fun i hi => ⟨_, by walk_at "up", rfl, fun ds I1 H2 g2 ⟨hw2, hd⟩ X' hA B' => ?_⟩) (fun u I1 I2 ds H2 ⟨hw2, ns, e1, e2, e3⟩ _ g2 hu => ?_)
    · have hr' : Room 1 X'.A := by rw [hA]; exact hr
      repeat walk_at "y"
      refine ⟨I1, w, _, _, rfl, g2.sub, hw1.out g2 hwI, hw2, by omega, by omega, by omega, fun z H3 z0 z1 g3 hw3 => ?_⟩
      repeat walk_at "y"
      exact ⟨I1, _, g3, .int _, hw3, hd.snoc (by omega)⟩
    · rw [e1] at hu
      refine q u ns I2 H2 (by omega) (by omega) e3 (g1.trans g2) (hw2.le (by omega)) hu
def spLOrder (Z : Wd) : Sp := fun vs H Q _ => ∃ I w m k, vs = [.ref w, .int ((m : Nat) : Int)] ∧ Same I H ∧ I w = none ∧ WellAt H w k ∧ k < 100000 ∧ 1 ≤ m ∧ m ≤ 8 ∧ ∀ u o I' H', Ook o m → Gr [w] I H I' H' → WellAt H' w (k + 8) → Dp Z.K I' u (dI o) → Q u H'
theorem ook_of : ∀ {o : List Int} {m : Nat}, o.length + 1 = m → (∀ (i : Nat) (a : Int), o[i]? = some a → 0 ≤ a ∧ a < (m : Int) - 1 - (i : Int)) → Ook o m
  | [], m, h, _ => by subst h; exact .nil
  | a :: o, m, h, hv => by
    subst h
    have h0 := hv 0 a rfl
    refine .cons h0.1 (by rw [List.length_cons] at *; omega) (ook_of rfl fun i b hb => ?_)
    have := hv (i + 1) b (by simpa using hb)
    rw [List.length_cons] at *
    omega
theorem fn_order {Z : Wd} {f : Addr} {fd : FuncData} (T : Std Z) (F1 : Fn Z 1 "_law_draw" ["_law_well_here", "_law_many"] (spDraw Z)) (F : Fun Z.K "_law_order" "_law_order" s_order f fd) : FnG Z 2 f fd ["_law_well_here", "_law_size"] (spLOrder Z) := by
  refine fnG_of F sc_order ok_order (fun vs H Q E h => ?_) (fun X H vs Q E B R h => ?_)
  · obtain ⟨I, w, m, k, rfl, _⟩ := h; rfl
  · obtain ⟨I, w, m, k, rfl, s, hwI, hw, hk, m1, m8, q⟩ := h
    have hr := R.room
    refine wst (σ' := some (.ref w) :: some (.int ((m : Nat) : Int)) :: z_order) rfl (wss_cons ?_)
    repeat walk_at "y"
    refine we_lc (own := oc0_order) B (by decide +kernel) (wi_range1 B (by walk_at "mem") T.range ?_)
    repeat walk_at "y"
    refine ⟨by omega, by omega, ?_⟩
    refine li_mapR (S := [w]) (M' := mc0_order) (G' := gc0_order) (I0 := I) (σ0 := [some (.ref w), some (.int ((m : Nat) : Int)), none]) (fun i ds _ H => WellAt H w (k + i) ∧ ∃ ns : List Int, ds = ns.map PyData.int ∧ ns.length = i ∧ ∀ (j : Nat) (a : Int), ns[j]? = some a → 0 ≤ a ∧ a < (m : Int) - 1 - (j : Int)) B (by decide +kernel) s (inS hw) stab_well (by omega)
      ⟨hw, [], rfl, rfl, fun j a h => by simp at h⟩ rfl (fun i hi => ⟨_, by walk_at "up", rfl, fun ds I1 H2 g2 ⟨hw2, ns, e1, e2, e3⟩ X' hA B' => ?_⟩) (fun u I1 I2 ds H2 ⟨hw2, ns, e1, e2, e3⟩ _ g2 hu => ?_)
    · have hr' : Room 1 X'.A := by rw [hA]; exact hr
      repeat walk_at "y"
      refine ⟨I1, w, _, _, rfl, g2.sub, hw.out g2 hwI, hw2, by omega, by omega, by omega, fun z H3 z0 z1 g3 hw3 => ?_⟩
      refine ⟨I1, _, g3, .int z, hw3, ns ++ [z], by rw [e1, List.map_append]; rfl, by rw [List.length_append, e2]; rfl, fun j a hj => ?_⟩
      by_cases hjl : j < ns.length
      · rw [List.getElem?_append_left hjl] at hj; exact e3 j a hj
      · have : j = ns.length := by have := (List.getElem?_eq_some_iff.mp hj).1; rw [List.length_append] at this; simp only [List.length_cons, List.length_nil] at this; omega
        subst this
        rw [List.getElem?_append_right (Nat.le_refl _), Nat.sub_self] at hj
        cases hj
        omega
    · rw [e1] at hu
      refine q u ns I2 H2 (ook_of (by omega) e3) g2 (hw2.le (by omega)) hu
def wSum (ws row : List Int) : Int := (row.map (wAt ws)).sum
def spLSum (Z : Wd) : Sp := fun vs H Q _ => ∃ I v u ws row, vs = [v, u] ∧ Same I H ∧ Dp Z.K I v (dI ws) ∧ Dp Z.K I u (dI row) ∧ row.length ≤ 1000 ∧ (∀ x ∈ row, 1 ≤ x ∧ x ≤ (ws.length : Int)) ∧ ∀ I' H', Gr [] I H I' H' → Q (.int (wSum ws row)) H'
theorem wAt_get {ws : List Int} {k : Int} (h1 : 1 ≤ k) (h2 : k ≤ (ws.length : Int)) : ws[(k - 1).toNat]? = some (wAt ws k) := by
  have h : (k - 1).toNat < ws.length := by omega
  unfold wAt; rw [List.getD_eq_getElem?_getD, List.getElem?_eq_getElem h]; rfl
theorem fn_sum {Z : Wd} {f : Addr} {fd : FuncData} (T : Std Z) (F : Fun Z.K "_law_sum" "_law_sum" s_sum f fd) : FnG Z 1 f fd ["_law_prices", "_law_row_here"] (spLSum Z) := by
  refine fnG_of F sc_sum ok_sum (fun vs H Q E h => ?_) (fun X H vs Q E B R h => ?_)
  · obtain ⟨I, v, u, ws, row, rfl, _⟩ := h; rfl
  · obtain ⟨I, v, u, ws, row, rfl, s, hv, hu, hl, hrow, q⟩ := h
    obtain ⟨b, rfl, hsq⟩ := dI_inv hu
    refine wst (σ' := some v :: some (.ref b) :: z_sum) rfl (wss_cons ?_)
    repeat walk_at "y"
    refine we_callB B (by walk_at "mem") T.sum b_sum (wa_cons ?_)
    refine we_lc (own := oc0_sum) B (by decide +kernel) (wi_list ?_)
    repeat walk_at "y"
    refine ⟨b, rfl, ⟨_, B.sqL (s.seq hsq)⟩, ?_⟩
    refine li_mapL (S := []) (M' := mc0_sum) (G' := gc0_sum) (I0 := I) (xs := row.map V.int) (σ0 := [some v, some (.ref b), none]) (fun i es _ _ => es = ((row.take i).map (wAt ws)).map PyData.int) B (by decide +kernel) s (by simp) stab_nil (B.sqL hsq) (by rw [List.length_map]; omega) rfl rfl
      (fun i y hy es I1 H1 g1 he => ?_) (fun u I1 I2 es H1 he _ g1 hu => ?_)
    · obtain ⟨z, rfl, hz⟩ := ints_get hy
      obtain ⟨z1, z2⟩ := hrow z (List.mem_of_getElem? hz)
      refine ⟨_, by walk_at "up", rfl, fun X' hA B' => ?_⟩
      repeat walk_at "y"
      refine io_L B' (g1.ii.trans g1.sub) hv (atI_nn (by omega) (by rw [List.getElem?_map, wAt_get z1 z2]; rfl)) fun u hu => ?_
      refine ⟨I1, _, .refl g1.sub, dp_mono g1.ii hu, ?_⟩
      rw [he, snocs hz, List.map_append, List.map_append]; rfl
    · rw [he, List.length_map, List.take_length] at hu
      refine wa_nil (co_sum B g1.sub hu ?_)
      exact q _ _ g1
end Y

namespace Y
open PySem PySem.Spec PyProof.Rows L2
/-- membership, slots -/
local macro_rules | `(tactic| walk_at "mem") => `(tactic| (repeat (first | with_reducible exact List.mem_cons_self | with_reducible apply List.mem_cons_of_mem)))
local macro_rules | `(tactic| walk_at "at") => `(tactic| (repeat (first | with_reducible exact At2.z | with_reducible apply At2.s)))
local macro_rules | `(tactic| walk_at "up") => `(tactic| (repeat (first | with_reducible exact Up2.z | with_reducible apply Up2.s)))
local macro_rules | `(tactic| walk_at "upf") => `(tactic| (intro _; (repeat (first | with_reducible exact Up2.z | with_reducible apply Up2.s))))
local macro_rules | `(tactic| walk_at "sub") => `(tactic| (with_reducible first | assumption | exact Gr.sub (by assumption)))
/-- one step -/
local macro_rules | `(tactic| walk_at "y") => `(tactic| (with_reducible first
  | refine wss_cons ?_ | refine we_cst (by assumption) (by walk_at "mem") (by with_reducible assumption) ?_ | refine we_var (by assumption) (by walk_at "at") ?_ | refine we_int ?_ | refine we_negC ?_ | refine we_bl ?_ | refine we_non ?_ | refine we_str ?_
  | refine wa_cons ?_ | refine wa_nil ?_ | refine wk_cons ?_ | refine wk_nil ?_
  | refine we_ty (by assumption) (by walk_at "mem") (Std.int (by assumption)) b_int ?_ | refine we_ty (by assumption) (by walk_at "mem") (Std.bool (by assumption)) b_bool ?_
  | refine we_ty (by assumption) (by walk_at "mem") (Std.list (by assumption)) b_list ?_ | refine we_ty (by assumption) (by walk_at "mem") (Std.tuple (by assumption)) b_tuple ?_ | refine we_ty (by assumption) (by walk_at "mem") (Std.str (by assumption)) b_str ?_
  | refine we_bin ?_ | refine bo_add ?_ | refine bo_sub ?_ | refine bo_lt ?_ | refine bo_le ?_ | refine bo_gt ?_ | refine bo_ge ?_ | refine bo_eqI ?_ | refine bo_neI ?_ | refine bo_eqS ?_ | refine bo_neS ?_ | refine bo_eqB ?_ | refine bo_neB ?_ | refine bo_isN ?_ | refine bo_notN ?_
  | refine we_cmp ?_ | refine we_and ?_ | refine we_or ?_ | refine we_one ?_ | refine we_not ?_ | refine we_if ?_ | refine we_chain ?_
  | refine wt_cmp ?_ | refine wt_not ?_ | refine wt_bool ?_ | refine ww_and ?_ | refine ww_or ?_ | refine ww_and1 ?_ | refine ww_or1 ?_ | refine wt_chain ?_
  | refine we_callB (by assumption) (by walk_at "mem") (Std.isinstance (by assumption)) b_isinstance ?_ | refine we_callB (by assumption) (by walk_at "mem") (Std.len (by assumption)) b_len ?_
  | refine we_callTy (by assumption) (by walk_at "mem") (Std.int (by assumption)) b_int ?_
  | refine isi_int (by assumption) (by walk_at "sub") (by assumption) ?_ | refine isi_bool (by assumption) (by walk_at "sub") (by assumption) ?_ | refine isi_list (by assumption) (by walk_at "sub") (by assumption) ?_ | refine isi_tup (by assumption) (by walk_at "sub") (by assumption) ?_ | refine isi_str (by assumption) (by walk_at "sub") (by assumption) ?_
  | refine co_int ?_ | refine co_intB ?_
  | refine we_tup ?_ | refine we_lst ?_ | refine we_ix ?_ | refine we_slice ?_ | refine wo_none ?_ | refine wo_some ?_
  | refine ws_set (by assumption) ?_ | refine ws_ret ?_ | refine ws_if ?_ | refine ws_expr ?_ | refine ws_retN ?_ | refine ws_pass ?_ | refine ws_break ?_ | refine ws_cont ?_ | refine wss_nil ?_
  | refine iteT ?_ | refine iteF ?_ | refine exb ?_ | refine exi ?_ | refine exv ?_ | refine exu (by walk_at "up") ?_ | refine wt_call ?_
  | refine we_callK (by assumption) (by with_reducible assumption) (room_le (by assumption) (by decide)) passZ (by walk_at "mem") ?_
  | refine we_call (by assumption) (by with_reducible assumption) (room_le (by assumption) (by decide)) passZ (by walk_at "mem") ?_))

def IsRows (n : Nat) (i : Nat) (ds : List PyData) : Prop := ∃ rows : List (List Int), ds = rows.map dI ∧ rows.length = i ∧ ∀ r ∈ rows, r.length = n ∧ ∀ x ∈ r, 1 ≤ x ∧ x ≤ (n : Int)
def spLJoins (Z : Wd) : Sp := fun vs H Q _ => ∃ I w n k, vs = [.ref w, .int ((n : Nat) : Int)] ∧ Same I H ∧ I w = none ∧ WellAt H w k ∧ k < 100000 ∧ 1 ≤ n ∧ n ≤ 5 ∧ ∀ u J I' H', Jok J n → Gr [w] I H I' H' → WellAt H' w (k + 26) → Dp Z.K I' u (dG J) → Q u H'
theorem fn_joins {Z : Wd} {f : Addr} {fd : FuncData} (T : Std Z) (F1 : Fn Z 1 "_law_draw" ["_law_well_here", "_law_many"] (spDraw Z)) (F : Fun Z.K "_law_joins" "_law_joins" s_joins f fd) : FnG Z 2 f fd ["_law_well_here", "_law_n"] (spLJoins Z) := by
  refine fnG_of F sc_joins ok_joins (fun vs H Q E h => ?_) (fun X H vs Q E B R h => ?_)
  · obtain ⟨I, w, n, k, rfl, _⟩ := h; rfl
  · obtain ⟨I, w, n, k, rfl, s, hwI, hw, hk, n1, n5, q⟩ := h
    have hr := R.room
    refine wst (σ' := some (.ref w) :: some (.int ((n : Nat) : Int)) :: z_joins) rfl (wss_cons ?_)
    repeat walk_at "y"
    refine ⟨I, w, _, k, rfl, s, hwI, hw, by omega, by omega, by omega, fun way H1 w0 w1 g1 hw1 => ?_⟩
    repeat walk_at "y"
    refine ⟨by decide +kernel, fun D hD => ?_⟩
    repeat walk_at "y"
    have hw1I : I w = none := hwI
    have st : Stab [w] (fun i ds _ H => WellAt H w (k + 1 + 5 * i) ∧ IsRows n i ds) := stab_well (f := fun i => k + 1 + 5 * i) (P := fun i ds => IsRows n i ds)
    have ms := ms_start (Z := Z) (S := [w]) (R := fun i ds _ H => WellAt H w (k + 1 + 5 * i) ∧ IsRows n i ds) st g1.sub (inS hw1) ⟨hw1, [], rfl, rfl, fun r h => by cases h⟩ hD
    refine ws_for B R.po (wi_range1 B (by walk_at "mem") T.range ?_)
    repeat walk_at "y"
    refine ⟨by omega, by omega, fi_range (fun i σ H' => ∃ acc u1 u2 u3 u4, σ = [some (.ref w), some (.int ((n : Nat) : Int)), some (.int way), some (.ref D), u1, u2, u3, u4] ∧ MapSt Z [w] I H1 (fun i ds _ H => WellAt H w (k + 1 + 5 * i) ∧ IsRows n i ds) i D acc H') ⟨[], _, _, _, _, rfl, ms⟩ ?_ ?_⟩
    · rintro i σ H2 hi ⟨acc, u1, u2, u3, u4, rfl, m⟩
      refine wg_name B (by walk_at "up") (wss_cons ?_)
      repeat walk_at "y"
      refine ⟨by decide +kernel, fun E hE => ?_⟩
      repeat walk_at "y"
      obtain ⟨I2, ds, g2, hI2, hdd, hw2, hrows⟩ := m.ex
      have st2 : Stab [w] (fun j es _ H => WellAt H w (k + 1 + 5 * i + j) ∧ IsInts (fun x => 1 ≤ x ∧ x ≤ (n : Int)) j es) := stab_well (f := fun j => k + 1 + 5 * i + j) (P := fun j es => IsInts (fun x => 1 ≤ x ∧ x ≤ (n : Int)) j es)
      have ms2 := ms_start (Z := Z) (S := [w]) (R := fun j es _ H => WellAt H w (k + 1 + 5 * i + j) ∧ IsInts (fun x => 1 ≤ x ∧ x ≤ (n : Int)) j es) st2 g2.sub (inS hw2) ⟨hw2, .nil⟩ hE
      refine ws_for B R.po (wi_range1 B (by walk_at "mem") T.range ?_)
      repeat walk_at "y"
      refine ⟨by omega, by omega, fi_range (fun j σ H' => ∃ acc' v3 v4, σ = [some (.ref w), some (.int ((n : Nat) : Int)), some (.int way), some (.ref D), some (.int (0 + (i : Nat))), some (.ref E), v3, v4] ∧ MapSt Z [w] I2 H2 (fun j es _ H => WellAt H w (k + 1 + 5 * i + j) ∧ IsInts (fun x => 1 ≤ x ∧ x ≤ (n : Int)) j es) j E acc' H') ⟨[], _, _, rfl, ms2⟩ ?_ ?_⟩
      · rintro j σ H3 hj ⟨acc', v3, v4, rfl, m3⟩
        refine wg_name B (by walk_at "up") (wss_cons ?_)
        obtain ⟨I3, es, g3, hI3, hee, hw3, hints⟩ := m3.ex
        have hwI3 : I3 w = none := hw2.out g3 (hw1.out g2 hwI)
        repeat walk_at "y"
        refine ⟨I3, w, _, _, rfl, g3.sub, hwI3, hw3, by omega, by omega, by omega, fun any H4 a0 a1 g4 hw4 => ?_⟩
        repeat walk_at "y"
        refine we_append ?_
        repeat walk_at "y"
        have hE4 : H4 E = some (.lst acc') := g4.keep _ _ m3.at_ m3.dS
        refine ⟨E, acc', rfl, hE4, ?_⟩
        refine we_bin ?_
        repeat walk_at "y"
        refine bo_mod (by omega) ?_
        repeat walk_at "y"
        refine we_callB B (by walk_at "mem") T.max b_max (wa_cons ?_)
        repeat walk_at "y"
        refine co_max B ?_
        repeat walk_at "y"
        refine bo_mul (.inl ⟨by omega, by omega⟩) ?_
        repeat walk_at "y"
        refine bo_mod (by omega) ?_
        repeat walk_at "y"
        refine ⟨le_line (by decide : (8 : Nat) ≤ 16777216), fun L hL => ?_⟩
        have g5 := g4.tmp (o := .lst [.int any, .int any, .int any, .int ((0 + (i : Int) + (0 + (j : Int))) % n), .int 0, .int (0 + (i : Int)), .int (max (0 + (i : Int)) (0 + (j : Int))), .int ((0 + (i : Int)) * (0 + (j : Int)) % n)]) hL
        repeat walk_at "y"
        have hval : ∃ z : Int, atI [V.int any, .int any, .int any, .int ((0 + (i : Int) + (0 + (j : Int))) % n), .int 0, .int (0 + (i : Int)), .int (max (0 + (i : Int)) (0 + (j : Int))), .int ((0 + (i : Int)) * (0 + (j : Int)) % n)] way = some (.int z) ∧ 0 ≤ z ∧ z < n := by
          have b1 := Int.emod_nonneg (0 + (i : Int) + (0 + (j : Int))) (b := (n : Int)) (by omega)
          have b2 := Int.emod_lt_of_pos (0 + (i : Int) + (0 + (j : Int))) (b := (n : Int)) (by omega)
          have b3 := Int.emod_nonneg ((0 + (i : Int)) * (0 + (j : Int))) (b := (n : Int)) (by omega)
          have b4 := Int.emod_lt_of_pos ((0 + (i : Int)) * (0 + (j : Int))) (b := (n : Int)) (by omega)
          have hway : way = 0 ∨ way = 1 ∨ way = 2 ∨ way = 3 ∨ way = 4 ∨ way = 5 ∨ way = 6 ∨ way = 7 := by omega
          rcases hway with e | e | e | e | e | e | e | e <;> subst e
          · exact ⟨any, rfl, a0, a1⟩
          · exact ⟨any, rfl, a0, a1⟩
          · exact ⟨any, rfl, a0, a1⟩
          · exact ⟨_, rfl, b1, b2⟩
          · exact ⟨0, rfl, by omega, by omega⟩
          · exact ⟨_, rfl, by omega, by omega⟩
          · exact ⟨_, rfl, by omega, by omega⟩
          · exact ⟨_, rfl, b3, b4⟩
        obtain ⟨z, hz, z0, z1⟩ := hval
        refine io_lst upd_same hz ?_
        repeat walk_at "y"
        obtain ⟨hE5, m5⟩ := m3.next st2 g3 hI3 hee g5 (.int (z + 1)) ⟨hw4.keep fun o e => by rw [upd_ne (ne_none e hL)]; exact e, hints.snoc (by omega)⟩
        refine ⟨acc', hE5, by have := m3.len; omega, ?_⟩
        repeat walk_at "y"
        exact ⟨_, _, _, rfl, m5⟩
      · rintro σ H3 ⟨acc', v3, v4, rfl, m3⟩
        obtain ⟨I3, I4, es, ⟨hw3, ns, e1, e2, e3⟩, s34, g3, hv, _⟩ := ms_end m3
        repeat walk_at "y"
        refine we_append ?_
        repeat walk_at "y"
        have hD3 : H3 D = some (.lst acc) := g3.keep _ _ m.at_ m.dS
        refine ⟨D, acc, rfl, hD3, ?_⟩
        repeat walk_at "y"
        rw [e1] at hv
        obtain ⟨rows, r1, r2, r3⟩ := hrows
        obtain ⟨_, m4⟩ := m.next st g2 hI2 hdd g3 hv ⟨hw3.le (by omega), rows ++ [ns], by rw [r1, List.map_append]; rfl, by rw [List.length_append, r2]; rfl, fun r hr => by
          rcases List.mem_append.mp hr with hr | hr
          · exact r3 r hr
          · rw [List.mem_singleton] at hr; subst hr; exact ⟨e2, e3⟩⟩
        refine ⟨acc, hD3, by have := m.len; omega, ?_⟩
        repeat walk_at "y"
        exact ⟨_, _, _, _, _, rfl, m4⟩
    · rintro σ H2 ⟨acc, u1, u2, u3, u4, rfl, m⟩
      obtain ⟨I3, I4, ds, ⟨hw3, rows, r1, r2, r3⟩, s34, g3, hv, _⟩ := ms_end m
      repeat walk_at "y"
      rw [r1] at hv
      exact q _ rows I4 H2 ⟨⟨r2.trans (by omega), r3⟩, n1, n5⟩ (g1.trans g3) (hw3.le (by omega)) hv
end Y

namespace Y
open PySem PySem.Spec PyProof.Rows L2
/-- membership, slots -/
local macro_rules | `(tactic| walk_at "mem") => `(tactic| (repeat (first | with_reducible exact List.mem_cons_self | with_reducible apply List.mem_cons_of_mem)))
local macro_rules | `(tactic| walk_at "at") => `(tactic| (repeat (first | with_reducible exact At2.z | with_reducible apply At2.s)))
local macro_rules | `(tactic| walk_at "up") => `(tactic| (repeat (first | with_reducible exact Up2.z | with_reducible apply Up2.s)))
local macro_rules | `(tactic| walk_at "upf") => `(tactic| (intro _; (repeat (first | with_reducible exact Up2.z | with_reducible apply Up2.s))))
local macro_rules | `(tactic| walk_at "sub") => `(tactic| (with_reducible first | assumption | exact Gr.sub (by assumption)))
/-- one step -/
local macro_rules | `(tactic| walk_at "y") => `(tactic| (with_reducible first
  | refine wss_cons ?_ | refine we_cst (by assumption) (by walk_at "mem") (by with_reducible assumption) ?_ | refine we_var (by assumption) (by walk_at "at") ?_ | refine we_int ?_ | refine we_negC ?_ | refine we_bl ?_ | refine we_non ?_ | refine we_str ?_
  | refine wa_cons ?_ | refine wa_nil ?_ | refine wk_cons ?_ | refine wk_nil ?_
  | refine we_ty (by assumption) (by walk_at "mem") (Std.int (by assumption)) b_int ?_ | refine we_ty (by assumption) (by walk_at "mem") (Std.bool (by assumption)) b_bool ?_
  | refine we_ty (by assumption) (by walk_at "mem") (Std.list (by assumption)) b_list ?_ | refine we_ty (by assumption) (by walk_at "mem") (Std.tuple (by assumption)) b_tuple ?_ | refine we_ty (by assumption) (by walk_at "mem") (Std.str (by assumption)) b_str ?_
  | refine we_bin ?_ | refine bo_add ?_ | refine bo_sub ?_ | refine bo_lt ?_ | refine bo_le ?_ | refine bo_gt ?_ | refine bo_ge ?_ | refine bo_eqI ?_ | refine bo_neI ?_ | refine bo_eqS ?_ | refine bo_neS ?_ | refine bo_eqB ?_ | refine bo_neB ?_ | refine bo_isN ?_ | refine bo_notN ?_
  | refine we_cmp ?_ | refine we_and ?_ | refine we_or ?_ | refine we_one ?_ | refine we_not ?_ | refine we_if ?_ | refine we_chain ?_
  | refine wt_cmp ?_ | refine wt_not ?_ | refine wt_bool ?_ | refine ww_and ?_ | refine ww_or ?_ | refine ww_and1 ?_ | refine ww_or1 ?_ | refine wt_chain ?_
  | refine we_callB (by assumption) (by walk_at "mem") (Std.isinstance (by assumption)) b_isinstance ?_ | refine we_callB (by assumption) (by walk_at "mem") (Std.len (by assumption)) b_len ?_
  | refine we_callTy (by assumption) (by walk_at "mem") (Std.int (by assumption)) b_int ?_
  | refine isi_int (by assumption) (by walk_at "sub") (by assumption) ?_ | refine isi_bool (by assumption) (by walk_at "sub") (by assumption) ?_ | refine isi_list (by assumption) (by walk_at "sub") (by assumption) ?_ | refine isi_tup (by assumption) (by walk_at "sub") (by assumption) ?_ | refine isi_str (by assumption) (by walk_at "sub") (by assumption) ?_
  | refine co_int ?_ | refine co_intB ?_
  | refine we_tup ?_ | refine we_lst ?_ | refine we_ix ?_ | refine we_slice ?_ | refine wo_none ?_ | refine wo_some ?_
  | refine ws_set (by assumption) ?_ | refine ws_ret ?_ | refine ws_if ?_ | refine ws_expr ?_ | refine ws_retN ?_ | refine ws_pass ?_ | refine ws_break ?_ | refine ws_cont ?_ | refine wss_nil ?_
  | refine iteT ?_ | refine iteF ?_ | refine exb ?_ | refine exi ?_ | refine exv ?_ | refine exu (by walk_at "up") ?_ | refine wt_call ?_
  | refine we_callK (by assumption) (by with_reducible assumption) (room_le (by assumption) (by decide)) passZ (by walk_at "mem") ?_
  | refine we_call (by assumption) (by with_reducible assumption) (room_le (by assumption) (by decide)) passZ (by walk_at "mem") ?_))

/-! ### shapes of data -/
theorem shaped_of {d : PyData} (h : d.canLay0 = true) (h2 : d.depth ≤ 64) : SeqAt.shaped d = true := by unfold SeqAt.shaped; rw [h, decide_eq_true h2]; rfl
theorem lay_ints : ∀ ns : List Int, PyData.canLayAll0 (ns.map PyData.int) = true
  | [] => rfl
  | _ :: r => by rw [List.map_cons, PyData.canLayAll0, lay_ints r]; rfl
theorem dep_ints : ∀ ns : List Int, PyData.depthAll (ns.map PyData.int) = 0
  | [] => rfl
  | _ :: r => by rw [List.map_cons, PyData.depthAll, dep_ints r]; rfl
theorem shaped_dI (ns : List Int) : SeqAt.shaped (dI ns) = true := shaped_of (lay_ints ns) (by show PyData.depthAll _ + 1 ≤ 64; rw [dep_ints]; decide)
theorem shaped_tI (ns : List Int) : SeqAt.shaped (tI ns) = true := shaped_of (lay_ints ns) (by show PyData.depthAll _ + 1 ≤ 64; rw [dep_ints]; decide)
theorem eqv_dI (ns : List Int) : PyData.eqv (dI ns) (dI ns) = true := SeqAt.eqv_refl _ (lay_ints ns)
theorem eqv_tI (ns : List Int) : PyData.eqv (tI ns) (tI ns) = true := SeqAt.eqv_refl _ (lay_ints ns)
theorem lay_deed (d : Bool × Int) : (dDeed d).canLay0 = true := by
  obtain ⟨b, i⟩ := d
  have h1 : PyData.strOk ("join" : Str) = true := by decide +kernel
  have h2 : PyData.strOk ("part" : Str) = true := by decide +kernel
  cases b
  · show (PyData.strOk ("part" : Str) && (true && true)) = true
    rw [h2]; rfl
  · show (PyData.strOk ("join" : Str) && (true && true)) = true
    rw [h1]; rfl
theorem lay_deeds : ∀ ds : List (Bool × Int), PyData.canLayAll0 (ds.map dDeed) = true
  | [] => rfl
  | d :: r => by rw [List.map_cons, PyData.canLayAll0, lay_deeds r, lay_deed]; rfl
theorem dep_deeds : ∀ ds : List (Bool × Int), PyData.depthAll (ds.map dDeed) ≤ 1
  | [] => Nat.zero_le _
  | d :: r => by
    rw [List.map_cons, PyData.depthAll]
    have := dep_deeds r
    have : (dDeed d).depth = 1 := rfl
    omega
theorem shaped_deeds (ds : List (Bool × Int)) : SeqAt.shaped (.list (ds.map dDeed)) = true := shaped_of (lay_deeds ds) (by show PyData.depthAll _ + 1 ≤ 64; have := dep_deeds ds; omega)
def Can (fs : List Tree) (d : Bool × Int) : Prop := ∃ pre l r post, d.2 = ((pre.length : Nat) : Int) ∧ if d.1 = true then fs = pre ++ l :: r :: post else fs = pre ++ .nd l r :: post
def Steps (fs : List Tree) (ds : List PyData) : Prop := ∃ ss : List (Bool × Int), ds = ss.map dDeed ∧ ∀ s ∈ ss, Can fs s
theorem Steps.snoc {fs : List Tree} {ds : List PyData} {d : Bool × Int} (h : Steps fs ds) (hd : Can fs d) : Steps fs (ds ++ [dDeed d]) := by
  obtain ⟨ss, rfl, h⟩ := h
  refine ⟨ss ++ [d], by rw [List.map_append]; rfl, fun s hs => ?_⟩
  rcases List.mem_append.mp hs with hs | hs
  · exact h s hs
  · rw [List.mem_singleton] at hs; subst hs; exact hd
theorem can_join {fs : List Tree} {i : Nat} (h : i + 1 < fs.length) : Can fs (true, (i : Int)) := by
  refine ⟨fs.take i, fs[i], fs[i + 1], fs.drop (i + 2), by rw [List.length_take, Nat.min_eq_left (by omega)], ?_⟩
  show fs = fs.take i ++ fs[i] :: fs[i + 1] :: fs.drop (i + 2)
  have e1 : fs.drop (i + 1) = fs[i + 1] :: fs.drop (i + 2) := List.drop_eq_getElem_cons (by omega)
  have e2 : fs.drop i = fs[i] :: fs.drop (i + 1) := List.drop_eq_getElem_cons (by omega)
  rw [← e1, ← e2, List.take_append_drop]
theorem can_part {fs : List Tree} {i : Nat} {l r : Tree} (h : fs[i]? = some (.nd l r)) : Can fs (false, (i : Int)) := by
  have hi : i < fs.length := (List.getElem?_eq_some_iff.mp h).1
  refine ⟨fs.take i, l, r, fs.drop (i + 1), by rw [List.length_take, Nat.min_eq_left (by omega)], ?_⟩
  show fs = fs.take i ++ .nd l r :: fs.drop (i + 1)
  have e2 : fs.drop i = fs[i] :: fs.drop (i + 1) := List.drop_eq_getElem_cons hi
  have e3 : fs[i] = .nd l r := by rw [List.getElem?_eq_getElem hi] at h; exact Option.some.inj h
  rw [← e3, ← e2, List.take_append_drop]
theorem stab_any {S : List Addr} {P : List PyData → Prop} : Stab S (fun _ ds _ _ => P ds) := fun _ _ _ _ _ _ _ _ h => h
theorem ms_skip {Z : Wd} {S : List Addr} {I0 H0 H : Hp} {P : List PyData → Prop} {i : Nat} {D : Addr} {acc : List V} (m : MapSt Z S I0 H0 (fun _ ds _ _ => P ds) i D acc H) : MapSt Z S I0 H0 (fun _ ds _ _ => P ds) (i + 1) D acc H :=
  ⟨m.ex, m.d0, m.dS, m.at_, Nat.le_succ_of_le m.len⟩
/-- the end, the list still known by itself -/
theorem ms_raw {Z : Wd} {S : List Addr} {I0 H0 H : Hp} {P : List PyData → Prop} {i : Nat} {D : Addr} {acc : List V} (m : MapSt Z S I0 H0 (fun _ ds _ _ => P ds) i D acc H) : ∃ I1 ds, Gr S I0 H0 I1 H ∧ DpAll Z.K I1 acc ds ∧ P ds ∧ ds.length ≤ i ∧ I1 D = none := by
  obtain ⟨I1, ds, g, hI, hd, r⟩ := m.ex
  exact ⟨I1, ds, g, hd, r, by rw [← hd.len]; exact m.len, hI⟩
def spPossible (Z : Wd) (C Ct : Addr) : Sp := fun vs H Q _ => ∃ I w y a J T row fs ds k, vs = [.ref w, .ref y] ∧ Same I H ∧ I w = none ∧ w ∉ a.own y ∧ WellAt H w k ∧ k < 100000 ∧ YardAt Z C Ct I H y a J T row fs ds ∧ row.length ≤ 8 ∧
  ∀ u d I' H', (d = .none ∨ ∃ s, d = dDeed s ∧ Can fs s) → Gr [w] I H I' H' → WellAt H' w (k + 1) → Dp Z.K I' u d → Q u H'
theorem fn_possible {Z : Wd} {f C Ct : Addr} {fd : FuncData} (T : Std Z) (M1 : Mth Z 1 C "shapes" ["self"] (spYShapes Z C Ct)) (F1 : Fn Z 2 "_law_one" ["_law_well_here", "_law_some"] (spOne Z)) (F : Fun Z.K "_law_possible" "_law_possible" s_possible f fd) : FnG Z 3 f fd ["_law_well_here", "_law_yard"] (spPossible Z C Ct) := by
  refine fnG_of F sc_possible ok_possible (fun vs H Q E h => ?_) (fun X H vs Q E B R h => ?_)
  · obtain ⟨I, w, y, a, J, T, row, fs, ds, k, rfl, _⟩ := h; rfl
  · obtain ⟨I, w, y, a, J, T', row, fs, ds, k, rfl, s, hwI, hwo, hw, hk, Y, hr8, q⟩ := h
    have hr := R.room
    have hfl : fs.length ≤ 8 := by have := (lv_len Y.lv).1; omega
    refine wst (σ' := some (.ref w) :: some (.ref y) :: z_possible) rfl (wss_cons ?_)
    repeat walk_at "y"
    refine we_meth0 B M1 (room_le hr (by decide)) passZ ?_
    repeat walk_at "y"
    refine ⟨y, _, _, rfl, Y.obj, rfl, I, y, a, J, T', row, fs, ds, rfl, s, Y, fun sh I1 H1 g1 hsh => ?_⟩
    repeat walk_at "y"
    refine ws_setLc (own := oc0_possible) (M := m_possible) B (by decide +kernel) (by with_unfolding_all rfl) (by with_unfolding_all rfl) (by with_unfolding_all rfl) (fun z => by walk_at "up") (wi_range1 B (by walk_at "mem") T.range ?_)
    repeat walk_at "y"
    refine co_len B g1.sub (.inl hsh) ?_
    rw [List.length_map]
    repeat walk_at "y"
    refine ⟨by omega, by omega, ?_⟩
    refine li_range (fun D i acc H => MapSt Z [] I1 H1 (fun _ es _ _ => Steps fs es) i D acc H) (fun D hD => ms_start stab_any g1.sub (by simp) ⟨[], rfl, fun s h => by cases h⟩ hD) ?_ ?_
    · intro D i acc H2 hi m
      refine tn_name (M' := mc0_possible) (G' := gc0_possible) (σ0 := [some (.ref w), some (.ref y), some sh, none, none]) B (by decide +kernel) rfl (by walk_at "up") rfl fun X' hb B' => ms_step m stab_any (by omega) fun I2 es g2 he => ?_
      repeat walk_at "y"
      refine ⟨le_line (by decide : (2 : Nat) ≤ 16777216), fun t ht => ?_⟩
      exact ⟨_, dDeed (true, (i : Int)), (Gr.refl g2.sub).new ht, dT_of upd_same (.cons (.str _) (.cons (by rw [Int.zero_add]; exact .int _) .nil)), he.snoc (can_join (by omega))⟩
    · intro D acc H2 m
      obtain ⟨I2, es, g2, he, hes, hel, hDI⟩ := ms_raw m
      have hDat := m.at_
      have hal := he.len
      repeat walk_at "y"
      refine we_lc (own := oc1_possible) B (by decide +kernel) (wi_range1 B (by walk_at "mem") T.range ?_)
      repeat walk_at "y"
      refine co_len B (g2.ii.trans g2.sub) (.inl hsh) ?_
      rw [List.length_map]
      repeat walk_at "y"
      refine ⟨by omega, by omega, ?_⟩
      refine li_range (fun D i acc H => MapSt Z [] I2 H2 (fun _ es _ _ => Steps fs es) i D acc H) (fun D hD => ms_start stab_any g2.sub (by simp) ⟨[], rfl, fun s h => by cases h⟩ hD) ?_ ?_
      · intro D2 i acc2 H3 hi m2
        refine tn_nameIf (M' := mc1_possible) (G' := gc1_possible) (σ0 := [some (.ref w), some (.ref y), some sh, some (.ref D), none]) B (by decide +kernel) rfl (by walk_at "up") rfl fun X' hb B' => ?_
        obtain ⟨I3, es3, g3, _, _, _, _⟩ := ms_raw m2
        have hif : i < fs.length := by omega
        repeat walk_at "y"
        refine io_L B' (g2.ii.trans (g3.ii.trans g3.sub)) hsh (d := dTr fs[i]) (atI_nn (by omega) (by rw [show (0 + (i : Int)).toNat = i by omega, List.getElem?_map, List.getElem?_eq_getElem hif]; rfl)) fun u hu => ?_
        have hu3 := dp_mono (g2.ii.trans g3.ii) hu
        repeat walk_at "y"
        cases ht : fs[i] with
        | lf z =>
          refine iteF ?_
          exact ms_skip m2
        | nd l r =>
          refine iteT ?_
          intro X'' hb' B''
          refine ms_step m2 stab_any (by omega) fun I4 es g4 he => ?_
          repeat walk_at "y"
          refine ⟨le_line (by decide : (2 : Nat) ≤ 16777216), fun t ht' => ?_⟩
          exact ⟨_, dDeed (false, (i : Int)), (Gr.refl g4.sub).new ht', dT_of upd_same (.cons (.str _) (.cons (by rw [Int.zero_add]; exact .int _) .nil)), he.snoc (can_part (by rw [List.getElem?_eq_getElem hif, ht]))⟩
      · intro D2 acc2 H3 m2
        obtain ⟨I3, es3, g3, he3, hes3, hel3, hD2I⟩ := ms_raw m2
        have hD2at := m2.at_
        have hal3 := he3.len
        have hD3 : H3 D = some (.lst acc) := g3.keep _ _ hDat (by simp)
        refine bo_cat hD3 hD2at (by omega) fun D3 hD3n => ?_
        have G3 := ((g1.trans g2).trans g3).new (o := .lst (acc ++ acc2)) hD3n
        have hse := same_upd (o := .lst (acc ++ acc2)) g3.sub hD3n
        have hall : DpAll Z.K (upd I3 D3 (.lst (acc ++ acc2))) (acc ++ acc2) (es ++ es3) := (dps_mono (g3.ii.trans hse) he).app (dps_mono hse he3)
        have hD3d : Dp Z.K (upd I3 D3 (.lst (acc ++ acc2))) (.ref D3) (.list (es ++ es3)) := dL_of upd_same hall
        have hD3a := upd_same (H := H3) (a := D3) (o := .lst (acc ++ acc2))
        generalize upd I3 D3 (.lst (acc ++ acc2)) = I4 at G3 hall hD3d hse
        generalize upd H3 D3 (.lst (acc ++ acc2)) = H4 at G3 hD3a ⊢
        obtain ⟨ss1, rfl, c1⟩ := hes
        obtain ⟨ss2, rfl, c2⟩ := hes3
        rw [← List.map_append] at hall hD3d
        rw [List.length_map] at hel hel3 hal hal3
        have hcan : ∀ s ∈ ss1 ++ ss2, Can fs s := fun s hs => by
          rcases List.mem_append.mp hs with hs | hs
          · exact c1 s hs
          · exact c2 s hs
        have hsl : (ss1 ++ ss2).length ≤ 20 := by rw [List.length_append]; omega
        generalize ss1 ++ ss2 = ss at hall hD3d hcan hsl
        repeat walk_at "y"
        refine ⟨le_line (by decide : (1 : Nat) ≤ 16777216), fun P1 hP1 => ?_⟩
        have G5 := G3.tmp (o := .lst [.non]) hP1
        repeat walk_at "y"
        refine ⟨by decide +kernel, fun P2 hP2 => ?_⟩
        have G6 := G5.new (o := .lst []) hP2
        have hse2 := same_upd (o := .lst []) G5.sub hP2
        refine bo_eqD B hr G6.sub (dp_mono hse2 hD3d) (dL_of upd_same .nil) (shaped_deeds ss) (by decide) ?_
        repeat walk_at "y"
        have hP1a : upd (upd H4 P1 (.lst [.non])) P2 (.lst []) P1 = some (.lst [.non]) := by rw [upd_ne (ne_none upd_same hP2)]; exact upd_same
        have hD4 : upd (upd H4 P1 (.lst [.non])) P2 (.lst []) D3 = some (.lst (acc ++ acc2)) := ukeepN (ukeepN hD3a hP1) hP2
        have hall2 := dps_mono hse2 hall
        generalize upd I4 P2 (.lst []) = I5 at G6 hall2
        generalize upd (upd H4 P1 (.lst [.non])) P2 (.lst []) = H5 at G6 hP1a hD4 ⊢
        have hwI6 : I5 w = none := (hw.out (G6.mono (S' := [w]) (by simp)) hwI)
        have hw6 : WellAt H5 w k := hw.keep fun o e => G6.keep _ _ e (by simp)
        cases ss with
        | nil =>
          refine bo_rep (k := 1) hP1a (by decide) (by decide) fun P3 hP3 => ?_
          have G7 := G6.tmp (o := .lst (List.flatten (List.replicate (1 : Int).toNat [.non]))) hP3
          refine bo_cat (ukeepN hD4 hP3) upd_same (by have := hall2.len; simp only [List.map_nil, List.length_nil] at this; rw [this]; decide) fun P4 hP4 => ?_
          have G8 := G7.new (o := .lst (acc ++ acc2 ++ List.flatten (List.replicate (1 : Int).toNat [.non]))) hP4
          have hse4 := same_upd (o := .lst (acc ++ acc2 ++ List.flatten (List.replicate (1 : Int).toNat [.non]))) G7.sub hP4
          refine wa_nil ⟨_, w, .ref P4, [.none], k, rfl, G8.sub, hw.out (G8.mono (S' := [w]) (by simp)) hwI, hw.keep fun o e => G8.keep _ _ e (by simp), by omega, dL_of upd_same (DpAll.app (dps_mono hse4 hall2) (.cons .non .nil)), by decide, by decide, fun d u H' hd hu g hw' => ?_⟩
          rw [List.mem_singleton] at hd
          subst hd
          exact q u _ _ H' (.inl rfl) ((G8.mono (S' := [w]) (by simp)).trans g) hw' hu
        | cons s0 ss =>
          refine bo_rep (k := 0) hP1a (by decide) (by decide) fun P3 hP3 => ?_
          have G7 := G6.tmp (o := .lst (List.flatten (List.replicate (0 : Int).toNat [.non]))) hP3
          refine bo_cat (ukeepN hD4 hP3) upd_same (by have := hall2.len; rw [List.length_map] at this; rw [this]; simp; simp at hsl; omega) fun P4 hP4 => ?_
          have G8 := G7.new (o := .lst (acc ++ acc2 ++ List.flatten (List.replicate (0 : Int).toNat [.non]))) hP4
          have hse4 := same_upd (o := .lst (acc ++ acc2 ++ List.flatten (List.replicate (0 : Int).toNat [.non]))) G7.sub hP4
          refine wa_nil ⟨_, w, .ref P4, (s0 :: ss).map dDeed ++ [], k, rfl, G8.sub, hw.out (G8.mono (S' := [w]) (by simp)) hwI, hw.keep fun o e => G8.keep _ _ e (by simp), by omega, dL_of upd_same (DpAll.app (dps_mono hse4 hall2) .nil), by simp, by simp at hsl ⊢; omega, fun d u H' hd hu g hw' => ?_⟩
          rw [List.append_nil] at hd
          obtain ⟨s1, h1, rfl⟩ := List.mem_map.mp hd
          exact q u _ _ H' (.inr ⟨s1, rfl, hcan s1 h1⟩) ((G8.mono (S' := [w]) (by simp)).trans g) hw' hu
end Y

namespace Y
open PySem PySem.Spec PyProof.Rows L2
/-- membership, slots -/
local macro_rules | `(tactic| walk_at "mem") => `(tactic| (repeat (first | with_reducible exact List.mem_cons_self | with_reducible apply List.mem_cons_of_mem)))
local macro_rules | `(tactic| walk_at "at") => `(tactic| (repeat (first | with_reducible exact At2.z | with_reducible apply At2.s)))
local macro_rules | `(tactic| walk_at "up") => `(tactic| (repeat (first | with_reducible exact Up2.z | with_reducible apply Up2.s)))
local macro_rules | `(tactic| walk_at "upf") => `(tactic| (intro _; (repeat (first | with_reducible exact Up2.z | with_reducible apply Up2.s))))
local macro_rules | `(tactic| walk_at "sub") => `(tactic| (with_reducible first | assumption | exact Gr.sub (by assumption)))
/-- one step -/
local macro_rules | `(tactic| walk_at "y") => `(tactic| (with_reducible first
  | refine wss_cons ?_ | refine we_cst (by assumption) (by walk_at "mem") (by with_reducible assumption) ?_ | refine we_var (by assumption) (by walk_at "at") ?_ | refine we_int ?_ | refine we_negC ?_ | refine we_bl ?_ | refine we_non ?_ | refine we_str ?_
  | refine wa_cons ?_ | refine wa_nil ?_ | refine wk_cons ?_ | refine wk_nil ?_
  | refine we_ty (by assumption) (by walk_at "mem") (Std.int (by assumption)) b_int ?_ | refine we_ty (by assumption) (by walk_at "mem") (Std.bool (by assumption)) b_bool ?_
  | refine we_ty (by assumption) (by walk_at "mem") (Std.list (by assumption)) b_list ?_ | refine we_ty (by assumption) (by walk_at "mem") (Std.tuple (by assumption)) b_tuple ?_ | refine we_ty (by assumption) (by walk_at "mem") (Std.str (by assumption)) b_str ?_
  | refine we_bin ?_ | refine bo_add ?_ | refine bo_sub ?_ | refine bo_lt ?_ | refine bo_le ?_ | refine bo_gt ?_ | refine bo_ge ?_ | refine bo_eqI ?_ | refine bo_neI ?_ | refine bo_eqS ?_ | refine bo_neS ?_ | refine bo_eqB ?_ | refine bo_neB ?_ | refine bo_isN ?_ | refine bo_notN ?_
  | refine we_cmp ?_ | refine we_and ?_ | refine we_or ?_ | refine we_one ?_ | refine we_not ?_ | refine we_if ?_ | refine we_chain ?_
  | refine wt_cmp ?_ | refine wt_not ?_ | refine wt_bool ?_ | refine ww_and ?_ | refine ww_or ?_ | refine ww_and1 ?_ | refine ww_or1 ?_ | refine wt_chain ?_
  | refine we_callB (by assumption) (by walk_at "mem") (Std.isinstance (by assumption)) b_isinstance ?_ | refine we_callB (by assumption) (by walk_at "mem") (Std.len (by assumption)) b_len ?_
  | refine we_callTy (by assumption) (by walk_at "mem") (Std.int (by assumption)) b_int ?_
  | refine isi_int (by assumption) (by walk_at "sub") (by assumption) ?_ | refine isi_bool (by assumption) (by walk_at "sub") (by assumption) ?_ | refine isi_list (by assumption) (by walk_at "sub") (by assumption) ?_ | refine isi_tup (by assumption) (by walk_at "sub") (by assumption) ?_ | refine isi_str (by assumption) (by walk_at "sub") (by assumption) ?_
  | refine co_int ?_ | refine co_intB ?_
  | refine we_tup ?_ | refine we_lst ?_ | refine we_ix ?_ | refine we_slice ?_ | refine wo_none ?_ | refine wo_some ?_
  | refine ws_set (by assumption) ?_ | refine ws_ret ?_ | refine ws_if ?_ | refine ws_expr ?_ | refine ws_retN ?_ | refine ws_pass ?_ | refine ws_break ?_ | refine ws_cont ?_ | refine wss_nil ?_
  | refine iteT ?_ | refine iteF ?_ | refine exb ?_ | refine exi ?_ | refine exv ?_ | refine exu (by walk_at "up") ?_ | refine wt_call ?_
  | refine we_callK (by assumption) (by with_reducible assumption) (room_le (by assumption) (by decide)) passZ (by walk_at "mem") ?_
  | refine we_call (by assumption) (by with_reducible assumption) (room_le (by assumption) (by decide)) passZ (by walk_at "mem") ?_))

/-! ### what was done, undone -/
def Did (fs : List Tree) (d : Bool × Int) (fs' : List Tree) : Prop := ∃ pre l r post, d.2 = ((pre.length : Nat) : Int) ∧ if d.1 = true then fs = pre ++ l :: r :: post ∧ fs' = pre ++ .nd l r :: post else fs = pre ++ .nd l r :: post ∧ fs' = pre ++ l :: r :: post
inductive Path (f0 : List Tree) : List (Bool × Int) → List Tree → Prop
  | nil : Path f0 [] f0
  | snoc {ds : List (Bool × Int)} {fs fs' : List Tree} {d : Bool × Int} : Path f0 ds fs → Did fs d fs' → Path f0 (ds ++ [d]) fs'
theorem Path.inv {f0 : List Tree} {ds : List (Bool × Int)} {d : Bool × Int} {fs' : List Tree} (h : Path f0 (ds ++ [d]) fs') : ∃ fs, Path f0 ds fs ∧ Did fs d fs' := by
  generalize e : ds ++ [d] = es at h
  cases h with
  | nil => simp at e
  | snoc h1 h2 =>
    obtain ⟨e1, e2⟩ := List.append_inj' e rfl
    cases e1
    cases e2
    exact ⟨_, h1, h2⟩
theorem Path.inv0 {f0 fs' : List Tree} (h : Path f0 [] fs') : fs' = f0 := by
  generalize e : ([] : List (Bool × Int)) = es at h
  cases h with
  | nil => rfl
  | snoc _ _ => simp at e
def spBack (Z : Wd) (C Ct : Addr) : Sp := fun vs H Q _ => ∃ I y v a J T row f0 fs ds0 ds n lo hi, vs = [.ref y, v] ∧ Same I H ∧ YardAt Z C Ct I H y a J T row fs ds0 ∧ Dp Z.K I v (.list (ds.map dDeed)) ∧ Path f0 ds fs ∧ ds0.length + ds.length < 1000000 ∧ Jok J n ∧ Rok row n ∧ Sq T n lo hi ∧
  ∀ I' H' ds', Gr (a.own y) I H I' H' → YardAt Z C Ct I' H' y a J T row f0 ds' → Q .non H'
theorem fn_backwards {Z : Wd} {f C Ct : Addr} {fd : FuncData} (T : Std Z) (M1 : Mth Z 5 C "join" ["self", "at"] (spYJoin Z C Ct)) (M2 : Mth Z 5 C "part" ["self", "at"] (spYPart Z C Ct)) (F : Fun Z.K "_law_backwards" "_law_backwards" s_backwards f fd) : FnG Z 6 f fd ["_law_yard", "_law_steps_done"] (spBack Z C Ct) := by
  refine fnG_of F sc_backwards ok_backwards (fun vs H Q E h => ?_) (fun X H vs Q E B R h => ?_)
  · obtain ⟨I, y, v, a, J, T, row, f0, fs, ds0, ds, n, lo, hi, rfl, _⟩ := h; rfl
  · obtain ⟨I, y, v, a, J, T', row, f0, fs, ds0, ds, n, lo, hi, rfl, s, Y, hv, hp, hdl, hJ, hrk, hT, q⟩ := h
    have hr := R.room
    obtain ⟨b, xs, rfl, hsq, hds⟩ := hv.list_inv
    refine wst (σ' := some (.ref y) :: some (.ref b) :: z_backwards) rfl (wss_cons ?_)
    refine ws_for B R.po (wi_list (we_revL ?_))
    repeat walk_at "y"
    refine ⟨b, xs, rfl, B.sqL (s.seq hsq), fun z hz => ⟨z, rfl, ⟨_, .inl (.inl upd_same)⟩, ?_⟩⟩
    have g0 : Gr (a.own y) I H (upd I z (.lst xs.reverse)) (upd H z (.lst xs.reverse)) := (Gr.refl s).new hz
    have hrev : DpAll Z.K I xs.reverse ((ds.map dDeed).reverse) := by
      clear hsq hv hz g0
      generalize ds.map dDeed = es at hds
      induction es generalizing xs with
      | nil => cases hds; exact .nil
      | cons e es ih =>
        cases hds with
        | cons h t => rw [List.reverse_cons, List.reverse_cons]; exact (ih _ t).app (.cons h .nil)
    have hzI : upd I z (.lst xs.reverse) z = some (.lst xs.reverse) := upd_same
    have Y0 := Y.mono ((Gr.refl s (S := [])).new (o := .lst xs.reverse) hz) (by simp)
    have hrev0 := dps_mono (same_upd (o := .lst xs.reverse) s hz) hrev
    generalize upd I z (.lst xs.reverse) = I1 at g0 hzI Y0 hrev0
    generalize upd H z (.lst xs.reverse) = H1 at g0 Y0 ⊢
    refine fi_list (xs := xs.reverse) (fun r σ H' => ∃ u1 u2 rest cur ds2 I2, σ = [some (.ref y), some (.ref b), u1, u2] ∧ DpAll Z.K I1 r ((rest.map dDeed).reverse) ∧ Path f0 rest cur ∧ Gr (a.own y) I1 H1 I2 H' ∧ YardAt Z C Ct I2 H' y a J T' row cur ds2 ∧ ds2.length + rest.length < 1000000) ⟨_, _, ds, fs, ds0, I1, rfl, hrev0, hp, .refl g0.sub, Y0, hdl⟩
      (fun r σ H' ⟨_, _, _, _, _, I2, _, _, _, g, _⟩ => .inl (.inl (g.sub _ _ (g.ii _ _ hzI)))) ?_ ?_
    · rintro x r σ H2 ⟨u1, u2, rest, cur, ds2, I2, rfl, hr1, hp1, g1, Y1, hl1⟩
      obtain ⟨rest', d, rfl⟩ : ∃ rest' d, rest = rest' ++ [d] := by
        rcases List.eq_nil_or_concat rest with e | ⟨L, d, e⟩
        · subst e; cases hr1
        · exact ⟨L, d, by rw [e, List.concat_eq_append]⟩
      rw [List.map_append, List.map_cons, List.map_nil, List.reverse_append] at hr1
      cases hr1 with
      | cons hx hr2 =>
      obtain ⟨t, ys, rfl, hsqt, hys⟩ := hx.tup_inv
      cases hys with
      | cons h1 hys =>
      cases hys with
      | cons h2 hys =>
      cases hys
      cases h1
      cases h2
      obtain ⟨cur0, hp0, pre, l, rr, post, e2, e3⟩ := hp1.inv
      rw [List.length_append, List.length_cons, List.length_nil] at hl1
      refine wg_tup B (B.sqT (Same.sqT (g1.ii.trans g1.sub) hsqt)) (wgs_cons (wg_name B (by walk_at "up") (wgs_cons (wg_name B (by walk_at "up") (wgs_nil ?_)))))
      obtain ⟨bb, at_⟩ := d
      have e2' : at_ = ((pre.length : Nat) : Int) := e2
      subst e2'
      cases bb with
      | true =>
        obtain ⟨rfl, rfl⟩ := e3
        repeat walk_at "y"
        refine ifd (fun _ => ?_) (fun h => absurd rfl h)
        repeat walk_at "y"
        refine we_meth B M2 (room_le hr (by decide)) passZ ?_
        repeat walk_at "y"
        refine ⟨y, _, _, rfl, Y1.obj, rfl, ?_⟩
        repeat walk_at "y"
        refine ⟨I2, y, a, J, T', row, pre, l, rr, post, ds2, n, lo, hi, rfl, g1.sub, Y1, hJ, hrk, hT, by omega, fun I3 H3 g3 Y3 => ?_⟩
        repeat walk_at "y"
        exact ⟨_, _, rest', _, _, I3, rfl, hr2, hp0, g1.trans g3, Y3, by rw [List.length_append, List.length_cons, List.length_nil]; omega⟩
      | false =>
        obtain ⟨rfl, rfl⟩ := e3
        repeat walk_at "y"
        refine ifd (fun h => absurd (show ("part" : Str) = "join" from h) (by decide +kernel)) (fun _ => ?_)
        repeat walk_at "y"
        refine we_meth B M1 (room_le hr (by decide)) passZ ?_
        repeat walk_at "y"
        refine ⟨y, _, _, rfl, Y1.obj, rfl, ?_⟩
        repeat walk_at "y"
        refine ⟨I2, y, a, J, T', row, pre, l, rr, post, ds2, n, lo, hi, rfl, g1.sub, Y1, hJ, hrk, hT, by omega, fun I3 H3 g3 Y3 => ?_⟩
        repeat walk_at "y"
        exact ⟨_, _, rest', _, _, I3, rfl, hr2, hp0, g1.trans g3, Y3, by rw [List.length_append, List.length_cons, List.length_nil]; omega⟩
    · rintro σ H2 ⟨u1, u2, rest, cur, ds2, I2, rfl, hr1, hp1, g1, Y1, hl1⟩
      have hre : rest = [] := by
        have := hr1.len
        rw [List.length_reverse, List.length_map] at this
        exact List.length_eq_zero_iff.mp this.symm
      subst hre
      cases hp1.inv0
      repeat walk_at "y"
      exact q I2 H2 ds2 (g0.trans g1) Y1
end Y

namespace Y
open PySem PySem.Spec PyProof.Rows L2
/-! ### the plain law -/
theorem tollRow_get {ws row : List Int} {l x k : Int} {j : Nat} (h1 : ws[j]? = some x) (h2 : row[j]? = some k) : (tollRow ws l row)[j]? = some (l + x - wAt ws k) := by
  have e : (ws.zip row)[j]? = some (x, k) := by rw [List.getElem?_zip_eq_some]; exact ⟨h1, h2⟩
  unfold tollRow; rw [List.getElem?_map, e]; rfl
theorem tollsOf_get {J : List (List Int)} {ws row : List Int} {x : Int} {i : Nat} (h1 : ws[i]? = some x) (h2 : J[i]? = some row) : (tollsOf J ws)[i]? = some (tollRow ws x row) := by
  have e : (ws.zip J)[i]? = some (x, row) := by rw [List.getElem?_zip_eq_some]; exact ⟨h1, h2⟩
  unfold tollsOf; rw [List.getElem?_map, e]; rfl
theorem sq_tolls {J : List (List Int)} {ws : List Int} {n : Nat} (hJ : Jok J n) (hl : ws.length = n) (hw : ∀ x ∈ ws, -99999999999 ≤ x ∧ x ≤ 99999999999) : Sq (tollsOf J ws) n (-999999999999) 999999999999 := by
  have hJl := hJ.1.1
  refine ⟨by unfold tollsOf; rw [List.length_map, List.length_zip]; omega, fun r hr => ?_⟩
  unfold tollsOf at hr
  obtain ⟨⟨x, row⟩, hp, rfl⟩ := List.mem_map.mp hr
  have hx := (List.of_mem_zip hp).1
  have hrow := (List.of_mem_zip hp).2
  have hrj := hJ.1.2 row hrow
  have bx := hw x hx
  refine ⟨by show (tollRow ws x row).length = n; unfold tollRow; rw [List.length_map, List.length_zip]; omega, fun y hy => ?_⟩
  have hy' : y ∈ tollRow ws x row := hy
  unfold tollRow at hy'
  obtain ⟨⟨z, k⟩, hq, rfl⟩ := List.mem_map.mp hy'
  have bz := hw z (List.of_mem_zip hq).1
  have bk := hrj.2 k (List.of_mem_zip hq).2
  have bw := hw _ (List.mem_of_getElem? (wAt_get (ws := ws) (k := k) bk.1 (by rw [hl]; exact bk.2)))
  show -999999999999 ≤ x + z - wAt ws k ∧ x + z - wAt ws k ≤ 999999999999
  omega
theorem cel_of {T : List (List Int)} {i j x : Int} {r : List Int} (h1 : T[(i - 1).toNat]? = some r) (h2 : r[(j - 1).toNat]? = some x) : cel T i j = x := by
  have e : T.getD (i - 1).toNat [] = r := by rw [List.getD_eq_getElem?_getD, h1]; rfl
  unfold cel
  rw [e, List.getD_eq_getElem?_getD, h2]; rfl
theorem cel_tolls {J : List (List Int)} {ws : List Int} {n : Nat} {i j : Int} (hJ : Jok J n) (hl : ws.length = n) (i1 : 1 ≤ i) (i2 : i ≤ (n : Int)) (j1 : 1 ≤ j) (j2 : j ≤ (n : Int)) : cel (tollsOf J ws) i j = wAt ws i + wAt ws j - wAt ws (cel J i j) := by
  obtain ⟨row, h1, h2, _⟩ := hJ.1.cel i1 i2 j1 j2
  exact cel_of (tollsOf_get (wAt_get i1 (by rw [hl]; exact i2)) h1) (tollRow_get (wAt_get j1 (by rw [hl]; exact j2)) h2)
def lk (row : List Int) (t : Tree) : List Int := t.leaves.map fun i => it row i.toNat
theorem coT_worth {J : List (List Int)} {ws row : List Int} {n : Nat} (hJ : Jok J n) (hl : ws.length = n) (hr : ∀ k ∈ row, 1 ≤ k ∧ k ≤ (n : Int)) : ∀ t : Tree, (∀ i ∈ t.leaves, 0 ≤ i ∧ i < (row.length : Int)) → coT J (tollsOf J ws) row t = wSum ws (lk row t) - wAt ws (kdT J row t)
  | .lf i, _ => by
    show (0 : Int) = ([wAt ws (it row i.toNat)] : List Int).sum - wAt ws (it row i.toNat)
    rw [List.sum_cons, List.sum_nil]; omega
  | .nd l r, h => by
    have hl' : ∀ i ∈ l.leaves, 0 ≤ i ∧ i < (row.length : Int) := fun i hi => h i (by simp [Tree.leaves, hi])
    have hr' : ∀ i ∈ r.leaves, 0 ≤ i ∧ i < (row.length : Int) := fun i hi => h i (by simp [Tree.leaves, hi])
    obtain ⟨a1, a2⟩ := kdT_ok hJ hr l hl'
    obtain ⟨b1, b2⟩ := kdT_ok hJ hr r hr'
    have e1 := coT_worth hJ hl hr l hl'
    have e2 := coT_worth hJ hl hr r hr'
    have e3 := cel_tolls (J := J) (ws := ws) hJ hl a1 a2 b1 b2
    have e4 : wSum ws (lk row (.nd l r)) = wSum ws (lk row l) + wSum ws (lk row r) := by unfold wSum lk; rw [Tree.leaves]; simp only [List.map_append, List.sum_append]
    have e5 : coT J (tollsOf J ws) row (.nd l r) = coT J (tollsOf J ws) row l + coT J (tollsOf J ws) row r + cel (tollsOf J ws) (kdT J row l) (kdT J row r) := rfl
    have e6 : kdT J row (.nd l r) = cel J (kdT J row l) (kdT J row r) := rfl
    rw [e5, e1, e2, e3, e4, e6]; omega
theorem lk_upTo (row : List Int) : (upTo row.length).map (fun i => it row i.toNat) = row := by
  unfold upTo; rw [List.map_map]
  refine List.ext_getElem (by simp) fun i h1 h2 => ?_
  rw [List.getElem_map, List.getElem_range]
  show it row (i : Int).toNat = _
  rw [Int.toNat_natCast]; unfold it; rw [List.getD_eq_getElem?_getD, List.getElem?_eq_getElem h2]; rfl
theorem totF_worth {J : List (List Int)} {ws row : List Int} {n : Nat} {fs : List Tree} (hJ : Jok J n) (hl : ws.length = n) (hr : ∀ k ∈ row, 1 ≤ k ∧ k ≤ (n : Int)) (hlv : (fs.map Tree.leaves).flatten = upTo row.length) : totF J (tollsOf J ws) row fs = wSum ws row - wSum ws (fs.map (kdT J row)) := by
  have key : ∀ gs : List Tree, (∀ t ∈ gs, ∀ i ∈ t.leaves, 0 ≤ i ∧ i < (row.length : Int)) → totF J (tollsOf J ws) row gs = wSum ws ((gs.map Tree.leaves).flatten.map fun i => it row i.toNat) - wSum ws (gs.map (kdT J row)) := by
    intro gs
    induction gs with
    | nil => intro _; rfl
    | cons t gs ih =>
      intro h
      have e1 := ih fun t' ht => h t' (by simp [ht])
      have e2 := coT_worth hJ hl hr t (h t (by simp))
      unfold totF at e1 ⊢
      unfold wSum at e1 e2 ⊢
      unfold lk at e2
      simp only [List.map_cons, List.flatten_cons, List.map_append, List.sum_append, List.sum_cons] at e1 e2 ⊢
      rw [e1, e2]; omega
  rw [key fs fun t ht i hi => upTo_mem (by rw [← hlv]; exact List.mem_flatten.mpr ⟨_, List.mem_map.mpr ⟨t, ht, rfl⟩, hi⟩), hlv, lk_upTo]
/-- one joining, in rows and in trees -/
theorem it_app {A B : List Int} {x : Int} : it (A ++ x :: B) A.length = x := by unfold it; rw [List.getD_eq_getElem?_getD]; simp
theorem it_app1 {A B : List Int} {x y : Int} : it (A ++ x :: y :: B) (A.length + 1) = y := by unfold it; rw [List.getD_eq_getElem?_getD, spl_at1]; rfl
theorem stepR_app (J : List (List Int)) (A B : List Int) (x y : Int) : stepR J (A ++ x :: y :: B) (A.length : Int) = A ++ cel J x y :: B := by
  unfold stepR
  rw [Int.toNat_natCast, it_app, it_app1, spl_take, spl_drop2, List.append_assoc]; rfl
theorem costR_app (T : List (List Int)) (A B : List Int) (x y : Int) : costR T (A ++ x :: y :: B) (A.length : Int) = cel T x y := by
  unfold costR
  rw [Int.toNat_natCast, it_app, it_app1]
theorem stepR_F (J : List (List Int)) (row : List Int) (pre post : List Tree) (l r : Tree) : stepR J ((pre ++ l :: r :: post).map (kdT J row)) (pre.length : Int) = (pre ++ .nd l r :: post).map (kdT J row) := by
  have := stepR_app J (pre.map (kdT J row)) (post.map (kdT J row)) (kdT J row l) (kdT J row r)
  rw [List.length_map] at this
  rw [List.map_append, List.map_append, List.map_cons, List.map_cons, List.map_cons]; exact this
theorem costR_F (J T : List (List Int)) (row : List Int) (pre post : List Tree) (l r : Tree) : costR T ((pre ++ l :: r :: post).map (kdT J row)) (pre.length : Int) = cel T (kdT J row l) (kdT J row r) := by
  have := costR_app T (pre.map (kdT J row)) (post.map (kdT J row)) (kdT J row l) (kdT J row r)
  rw [List.length_map] at this
  rw [List.map_append, List.map_cons, List.map_cons]; exact this
theorem totF_step (J T : List (List Int)) (row : List Int) (pre post : List Tree) (l r : Tree) : totF J T row (pre ++ .nd l r :: post) = totF J T row (pre ++ l :: r :: post) + cel T (kdT J row l) (kdT J row r) := by
  unfold totF
  simp only [List.map_append, List.map_cons, List.sum_append, List.sum_cons, coT]
  omega
/-- the order of a tree -/
theorem ordT (J T : List (List Int)) (row : List Int) : ∀ (t : Tree) (A B rest : List Int), totR J T (A ++ lk row t ++ B) (orderT t A.length ++ rest) = coT J T row t + totR J T (A ++ kdT J row t :: B) rest ∧ endR J (A ++ lk row t ++ B) (orderT t A.length ++ rest) = endR J (A ++ kdT J row t :: B) rest ∧
    (Ook rest (A.length + 1 + B.length) → Ook (orderT t A.length ++ rest) (A.length + t.leaves.length + B.length))
  | .lf i, A, B, rest => by
    have e : A ++ lk row (.lf i) ++ B = A ++ kdT J row (.lf i) :: B := by unfold lk; rw [Tree.leaves, List.append_assoc]; rfl
    rw [e, orderT, List.nil_append]
    exact ⟨by rw [coT]; omega, rfl, fun h => h⟩
  | .nd l r, A, B, rest => by
    have h1 := ordT J T row l A (lk row r ++ B) (orderT r (A.length + 1) ++ ([(A.length : Int)] ++ rest))
    have h2 := ordT J T row r (A ++ [kdT J row l]) B ([(A.length : Int)] ++ rest)
    have e1 : A ++ lk row (.nd l r) ++ B = A ++ lk row l ++ (lk row r ++ B) := by unfold lk; rw [Tree.leaves]; simp only [List.map_append, List.append_assoc]
    have e2 : orderT (.nd l r) A.length ++ rest = orderT l A.length ++ (orderT r (A.length + 1) ++ ([(A.length : Int)] ++ rest)) := by rw [orderT]; simp only [List.append_assoc]
    have e3 : A ++ kdT J row l :: (lk row r ++ B) = A ++ [kdT J row l] ++ lk row r ++ B := by simp
    have e4 : (((A ++ [kdT J row l]).length : Nat) : Int) = (A.length : Int) + 1 := by rw [List.length_append]; rfl
    have e5 : A ++ [kdT J row l] ++ kdT J row r :: B = A ++ kdT J row l :: kdT J row r :: B := by simp
    rw [e4, e5] at h2
    rw [e3] at h1
    have e6 : totR J T (A ++ kdT J row l :: kdT J row r :: B) ([(A.length : Int)] ++ rest) = cel T (kdT J row l) (kdT J row r) + totR J T (A ++ kdT J row (.nd l r) :: B) rest := by
      show costR T _ _ + totR J T (stepR J _ _) rest = _
      rw [costR_app, stepR_app]; rfl
    have e7 : endR J (A ++ kdT J row l :: kdT J row r :: B) ([(A.length : Int)] ++ rest) = endR J (A ++ kdT J row (.nd l r) :: B) rest := by
      show endR J (stepR J _ _) rest = _
      rw [stepR_app]; rfl
    have ll : (lk row r).length = r.leaves.length := by unfold lk; rw [List.length_map]
    refine ⟨?_, ?_, fun ho => ?_⟩
    · rw [e1, e2, h1.1, h2.1, e6, coT]; omega
    · rw [e1, e2, h1.2.1, h2.2.1, e7]
    · rw [e2]
      have o1 : Ook ([(A.length : Int)] ++ rest) ((A ++ [kdT J row l]).length + 1 + B.length) := by
        rw [List.length_append, List.length_cons, List.length_nil]
        have : A.length + (0 + 1) + 1 + B.length = (A.length + 1 + B.length) + 1 := by omega
        rw [this]
        exact .cons (by omega) (by omega) ho
      have o2 := h2.2.2 o1
      have o3 := h1.2.2 (by
        rw [List.length_append, ll]
        have : A.length + 1 + (r.leaves.length + B.length) = (A ++ [kdT J row l]).length + r.leaves.length + B.length := by rw [List.length_append, List.length_cons, List.length_nil]; omega
        rw [this]; exact o2)
      rw [Tree.leaves, List.length_append]
      rw [List.length_append, ll] at o3
      have : A.length + (l.leaves.length + r.leaves.length) + B.length = A.length + l.leaves.length + (r.leaves.length + B.length) := by omega
      rw [this]; exact o3
theorem ordT_all {J T : List (List Int)} {row : List Int} {t : Tree} (h : t.leaves = upTo row.length) : totR J T row (orderT t 0) = coT J T row t ∧ endR J row (orderT t 0) = kdT J row t ∧ Ook (orderT t 0) row.length := by
  have hk : lk row t = row := by unfold lk; rw [h]; exact lk_upTo row
  have := ordT J T row t [] [] []
  rw [List.append_nil, List.append_nil, List.nil_append, hk] at this
  obtain ⟨h1, h2, h3⟩ := this
  have hll : t.leaves.length = row.length := by rw [h, upTo_len]
  refine ⟨by have e : totR J T ([] ++ [kdT J row t]) [] = 0 := rfl; rw [e] at h1; rw [Int.add_zero] at h1; exact h1, h2, ?_⟩
  have := h3 .nil
  rw [hll] at this
  simpa using this
end Y

namespace Y
open PySem PySem.Spec PyProof.Rows L2
/-- membership, slots -/
local macro_rules | `(tactic| walk_at "mem") => `(tactic| (repeat (first | with_reducible exact List.mem_cons_self | with_reducible apply List.mem_cons_of_mem)))
local macro_rules | `(tactic| walk_at "at") => `(tactic| (repeat (first | with_reducible exact At2.z | with_reducible apply At2.s)))
local macro_rules | `(tactic| walk_at "up") => `(tactic| (repeat (first | with_reducible exact Up2.z | with_reducible apply Up2.s)))
local macro_rules | `(tactic| walk_at "upf") => `(tactic| (intro _; (repeat (first | with_reducible exact Up2.z | with_reducible apply Up2.s))))
local macro_rules | `(tactic| walk_at "sub") => `(tactic| (with_reducible first | assumption | exact Gr.sub (by assumption)))
/-- one step -/
local macro_rules | `(tactic| walk_at "y") => `(tactic| (with_reducible first
  | refine wss_cons ?_ | refine we_cst (by assumption) (by walk_at "mem") (by with_reducible assumption) ?_ | refine we_var (by assumption) (by walk_at "at") ?_ | refine we_int ?_ | refine we_negC ?_ | refine we_bl ?_ | refine we_non ?_ | refine we_str ?_
  | refine wa_cons ?_ | refine wa_nil ?_ | refine wk_cons ?_ | refine wk_nil ?_
  | refine we_ty (by assumption) (by walk_at "mem") (Std.int (by assumption)) b_int ?_ | refine we_ty (by assumption) (by walk_at "mem") (Std.bool (by assumption)) b_bool ?_
  | refine we_ty (by assumption) (by walk_at "mem") (Std.list (by assumption)) b_list ?_ | refine we_ty (by assumption) (by walk_at "mem") (Std.tuple (by assumption)) b_tuple ?_ | refine we_ty (by assumption) (by walk_at "mem") (Std.str (by assumption)) b_str ?_
  | refine we_bin ?_ | refine bo_add ?_ | refine bo_sub ?_ | refine bo_lt ?_ | refine bo_le ?_ | refine bo_gt ?_ | refine bo_ge ?_ | refine bo_eqI ?_ | refine bo_neI ?_ | refine bo_eqS ?_ | refine bo_neS ?_ | refine bo_eqB ?_ | refine bo_neB ?_ | refine bo_isN ?_ | refine bo_notN ?_
  | refine we_cmp ?_ | refine we_and ?_ | refine we_or ?_ | refine we_one ?_ | refine we_not ?_ | refine we_if ?_ | refine we_chain ?_
  | refine wt_cmp ?_ | refine wt_not ?_ | refine wt_bool ?_ | refine ww_and ?_ | refine ww_or ?_ | refine ww_and1 ?_ | refine ww_or1 ?_ | refine wt_chain ?_
  | refine we_callB (by assumption) (by walk_at "mem") (Std.isinstance (by assumption)) b_isinstance ?_ | refine we_callB (by assumption) (by walk_at "mem") (Std.len (by assumption)) b_len ?_
  | refine we_callTy (by assumption) (by walk_at "mem") (Std.int (by assumption)) b_int ?_
  | refine isi_int (by assumption) (by walk_at "sub") (by assumption) ?_ | refine isi_bool (by assumption) (by walk_at "sub") (by assumption) ?_ | refine isi_list (by assumption) (by walk_at "sub") (by assumption) ?_ | refine isi_tup (by assumption) (by walk_at "sub") (by assumption) ?_ | refine isi_str (by assumption) (by walk_at "sub") (by assumption) ?_
  | refine co_int ?_ | refine co_intB ?_
  | refine we_tup ?_ | refine we_lst ?_ | refine we_ix ?_ | refine we_slice ?_ | refine wo_none ?_ | refine wo_some ?_
  | refine ws_set (by assumption) ?_ | refine ws_ret ?_ | refine ws_if ?_ | refine ws_expr ?_ | refine ws_retN ?_ | refine ws_pass ?_ | refine ws_break ?_ | refine ws_cont ?_ | refine wss_nil ?_
  | refine iteT ?_ | refine iteF ?_ | refine exb ?_ | refine exi ?_ | refine exv ?_ | refine exu (by walk_at "up") ?_ | refine wt_call ?_
  | refine we_callK (by assumption) (by with_reducible assumption) (room_le (by assumption) (by decide)) passZ (by walk_at "mem") ?_
  | refine we_call (by assumption) (by with_reducible assumption) (room_le (by assumption) (by decide)) passZ (by walk_at "mem") ?_))

theorem Gr.then {S0 S : List Addr} {I0 H0 I H I' H' : Hp} (a : Gr S0 I0 H0 I H) (b : Gr S I H I' H') (h : ∀ p ∈ S, H0 p = none ∨ p ∈ S0) : Gr S0 I0 H0 I' H' where
  ii := a.ii.trans b.ii
  sub := b.sub
  fresh := fun p o h1 h2 => by
    cases e : I p with
    | none => exact a.dom p (b.fresh p o h1 e)
    | some o' => exact a.fresh p o' e h2
  keep := fun p o e hn => b.keep p o (a.keep p o e hn) fun z => by
    rcases h p z with z | z
    · rw [z] at e; cases e
    · exact hn z
  dom := fun p e => a.dom p (b.dom p e)
/-- what stands behind the law's preparation -/
structure LS (Z : Wd) (C Ct w t y : Addr) (a : Ya) (vJ vP vR : V) (J : List (List Int)) (ws row : List Int) (n : Nat) (I0 H0 I H : Hp) (k : Nat) (fs : List Tree) (ds : List (Bool × Int)) : Prop where
  g : Gr [] I0 H0 I H
  w0 : H0 w = none
  wI : I w = none
  wo : w ∉ a.own y
  wl : WellAt H w k
  jok : Jok J n
  wsl : ws.length = n
  wsb : ∀ x ∈ ws, -99999999999 ≤ x ∧ x ≤ 99999999999
  rok : Rok row n
  dJ : Dp Z.K I vJ (dG J)
  dP : Dp Z.K I vP (dI ws)
  dR : Dp Z.K I vR (dI row)
  tab : TabAt Z Ct I t J (tollsOf J ws)
  yd : YardAt Z C Ct I H y a J (tollsOf J ws) row fs ds
  y0 : ∀ p ∈ a.own y, H0 p = none
  pa : Path (seeds row.length) ds fs
def lawFor : List Stmt := match defBody s_law with | [.For _ _ b _ _, _] => b | _ => []
structure LawFns (Z : Wd) (C Ct : Addr) : Prop where
  well : Fn Z 1 "_law_well" ["_law_cell"] (spWell Z)
  draw : Fn Z 1 "_law_draw" ["_law_well_here", "_law_many"] (spDraw Z)
  one : Fn Z 2 "_law_one" ["_law_well_here", "_law_some"] (spOne Z)
  joins : Fn Z 2 "_law_joins" ["_law_well_here", "_law_n"] (spLJoins Z)
  row : Fn Z 2 "_law_row" ["_law_well_here", "_law_n", "_law_most"] (spLRow Z)
  order : Fn Z 2 "_law_order" ["_law_well_here", "_law_size"] (spLOrder Z)
  back : Fn Z 6 "_law_backwards" ["_law_yard", "_law_steps_done"] (spBack Z C Ct)
  poss : Fn Z 3 "_law_possible" ["_law_well_here", "_law_yard"] (spPossible Z C Ct)
  sum : Fn Z 1 "_law_sum" ["_law_prices", "_law_row_here"] (spLSum Z)
  cell : Fn Z 1 "_law_cell_at" ["_law_script", "_law_k"] (spCellAt Z)
  tolls : Fn Z 5 "tolls_of_worths" ["joins", "worths"] (spTolls Z)
  result : Fn Z 6 "result" ["table", "row", "order"] (spResult Z Ct)
  orderOf : Fn Z 10 "order_of" ["tree"] (spOrderOf Z)
  mkT : Mkr Z 5 Ct "Table" ["self", "joins", "tolls"] (spTableInit Z Ct)
  mkY : Mkr Z 4 C "Yard" ["self", "table", "row"] (spYInit Z C Ct)
  join : Mth Z 5 C "join" ["self", "at"] (spYJoin Z C Ct)
  part : Mth Z 5 C "part" ["self", "at"] (spYPart Z C Ct)
  rowM : Mth Z 1 C "row" ["self"] (spYRow Z C Ct)
  shapes : Mth Z 1 C "shapes" ["self"] (spYShapes Z C Ct)
  paid : Mth Z 1 C "paid" ["self"] (spYPaid Z C Ct)
  history : Mth Z 1 C "history" ["self"] (spYHist Z C Ct)
theorem law_A {Z : Wd} {C Ct : Addr} {X : Cx} {E : XK} {D : Ends} {I H : Hp} {v : V} {c : Int} {u2 u3 u4 u5 u6 u7 u8 u9 u10 u11 u12 u13 u14 u15 u16 : Option V} (B : Bd Z X n_law (defScope s_law) m_law g_law) (R : Fr2 Z X 10 E) (T : Std Z) (L : LawFns Z C Ct) (s : Same I H)
    (q : ∀ w t y a vJ vP vR J ws row n I' H', LS Z C Ct w t y a vJ vP vR J ws row n I H I' H' 60 (seeds row.length) [] → WSs X (lawFor.drop 7) D [some v, some (.int c), some (.ref w), some (.int (n : Nat)), some vJ, some vP, some (.ref t), some vR, some (.ref y), u9, u10, u11, u12, u13, u14, u15, u16] H') :
    WSs X lawFor D [some v, some (.int c), u2, u3, u4, u5, u6, u7, u8, u9, u10, u11, u12, u13, u14, u15, u16] H := by
  have hr := R.room
  refine wss_cons ?_
  repeat walk_at "y"
  refine we_call B L.well (room_le hr (by decide)) passZ (by walk_at "mem") ?_
  repeat walk_at "y"
  refine ⟨I, c, rfl, s, fun w H1 g1 w0 wI hw1 => ?_⟩
  repeat walk_at "y"
  refine we_call B L.draw (room_le hr (by decide)) passZ (by walk_at "mem") ?_
  repeat walk_at "y"
  refine ⟨I, w, _, 0, rfl, g1.sub, wI, hw1, by decide, by decide, by decide, fun z H2 z0 z1 g2 hw2 => ?_⟩
  have G2 : Gr [] I H I H2 := g1.then g2 (by simp [w0])
  obtain ⟨zn, rfl⟩ := Int.eq_ofNat_of_zero_le z0
  have ez : (1 : Int) + (zn : Int) = ((1 + zn : Nat) : Int) := by omega
  refine bo_add ?_
  rw [ez]
  have n1 : 1 ≤ 1 + zn := by omega
  have n5 : 1 + zn ≤ 5 := by omega
  generalize 1 + zn = n at n1 n5 ⊢
  repeat walk_at "y"
  refine we_call B L.joins (room_le hr (by decide)) passZ (by walk_at "mem") ?_
  repeat walk_at "y"
  refine ⟨I, w, n, 1, rfl, G2.sub, wI, hw2, by decide, n1, n5, fun vJ J I3 H3 hJ g3 hw3 dJ => ?_⟩
  have G3 : Gr [] I H I3 H3 := G2.then g3 (by simp [w0])
  have wI3 := hw2.out g3 wI
  repeat walk_at "y"
  refine ws_setLc (own := oc0_law) (M := m_law) B (by decide +kernel) (by with_unfolding_all rfl) (by with_unfolding_all rfl) (by with_unfolding_all rfl) (fun z => by walk_at "up") (wi_range1 B (by walk_at "mem") T.range ?_)
  repeat walk_at "y"
  refine ⟨by omega, by omega, ?_⟩
  refine li_mapR (S := [w]) (M' := mc0_law) (G' := gc0_law) (I0 := I3) (σ0 := [some v, some (.int c), some (.ref w), some (.int ((n : Nat) : Int)), some vJ, u5, u6, u7, u8, u9, u10, u11, u12, u13, u14, u15, none]) (fun i ds _ H => WellAt H w (27 + 3 * i) ∧ IsInts (fun x => -99999999999 ≤ x ∧ x ≤ 99999999999) i ds) B (by decide +kernel) g3.sub (inS hw3) (stab_well (f := fun i => 27 + 3 * i) (P := fun i ds => IsInts (fun x => -99999999999 ≤ x ∧ x ≤ 99999999999) i ds)) (by omega) ⟨hw3, .nil⟩ rfl
    (fun i hi => ⟨_, by walk_at "up", rfl, fun ds I4 H4 g4 ⟨hw4, hd⟩ X' hA B' => ?_⟩) (fun vP I4 I5 ds H4 ⟨hw4, ws, e1, e2, e3⟩ _ g4 hP => ?_)
  · have hr' : Room 10 X'.A := by rw [hA]; exact hr
    have wI4 := hw3.out g4 wI3
    refine we_call B' L.one (room_le hr' (by decide)) passZ (by walk_at "mem") ?_
    repeat walk_at "y"
    refine we_call B' L.draw (room_le hr' (by decide)) passZ (by walk_at "mem") ?_
    repeat walk_at "y"
    refine ⟨I4, w, _, _, rfl, g4.sub, wI4, hw4, by omega, by decide, by decide, fun z1 H5 z10 z11 g5 hw5 => ?_⟩
    repeat walk_at "y"
    refine we_call B' L.draw (room_le hr' (by decide)) passZ (by walk_at "mem") ?_
    repeat walk_at "y"
    refine bo_pow ⟨by decide, by decide, by decide⟩ ?_
    repeat walk_at "y"
    refine ⟨I4, w, _, _, rfl, g5.sub, hw4.out g5 wI4, hw5, by omega, by decide, by decide, fun z2 H6 z20 z21 g6 hw6 => ?_⟩
    repeat walk_at "y"
    refine bo_pow ⟨by decide, by decide, by decide⟩ ?_
    refine bo_mul (.inl ⟨by decide, by decide⟩) ?_
    repeat walk_at "y"
    refine ⟨le_line (by decide : (2 : Nat) ≤ 16777216), fun l hl => ?_⟩
    have g7 := (g5.trans g6).new (o := .lst [.int (z1 - 9), .int (z2 - 5 * 10 ^ (10 : Int).toNat)]) hl
    repeat walk_at "y"
    refine ⟨_, w, _, [.int (z1 - 9), .int (z2 - 5 * 10 ^ (10 : Int).toNat)], _, rfl, g7.sub, hw4.out g7 wI4, hw6.keep fun o e => by rw [upd_ne (ne_none e hl)]; exact e, by omega, dL_of upd_same (.cons (.int _) (.cons (.int _) .nil)), (of_decide_eq_true rfl : 0 < 2), (of_decide_eq_true rfl : 2 < 1000000), fun d u H7 hdm hu g8 hw8 => ?_⟩
    have hz2 : z2 < 10 ^ 11 := z21
    have hd2 : ∃ x : Int, d = .int x ∧ -99999999999 ≤ x ∧ x ≤ 99999999999 := by
      rcases List.mem_cons.mp hdm with e | hdm
      · exact ⟨_, e, by omega, by omega⟩
      · rw [List.mem_singleton] at hdm
        refine ⟨_, hdm, ?_⟩
        show -99999999999 ≤ z2 - 5 * 10 ^ 10 ∧ z2 - 5 * 10 ^ 10 ≤ 99999999999
        omega
    obtain ⟨x, rfl, hx⟩ := hd2
    exact ⟨_, _, g7.trans g8, hu, hw8.le (by omega), hd.snoc hx⟩
  · rw [e1] at hP
    have G4 : Gr [] I H I5 H4 := G3.then g4 (by simp [w0])
    have wI5 := hw3.out g4 wI3
    have dJ5 := dp_mono g4.ii dJ
    repeat walk_at "y"
    refine we_make B L.mkT (room_le hr (by decide)) passZ (by walk_at "mem") ?_
    repeat walk_at "y"
    refine we_call B L.tolls (room_le hr (by decide)) passZ (by walk_at "mem") ?_
    repeat walk_at "y"
    refine ⟨I5, _, _, J, ws, n, rfl, g4.sub, dJ5, hP, hJ, e2, e3, fun vT I6 H6 g6 dT => ?_⟩
    have G6 : Gr [] I H I6 H6 := G4.trans g6
    have hw6 : WellAt H6 w (27 + 3 * n) := hw4.keep fun o e => g6.keep _ _ e (by simp)
    have wI6 := hw4.out g6 wI5
    refine wa_nil fun t dx htn hdxn hne => ?_
    have gt := (G6.tmp (o := .own t) hdxn).tmp (p := t) (o := .ins Ct dx []) (by rw [upd_ne (Ne.symm hne)]; exact htn)
    have hsq := sq_tolls hJ e2 e3
    have hIt : I6 t = none := G6.out' htn
    refine ⟨I6, t, dx, _, _, J, tollsOf J ws, n, rfl, gt.sub, hIt, upd_same, dp_mono g6.ii dJ5, dT, hJ, hsq, fun I7 H7 r p g7 ht7 hr7 hp7 => ⟨rfl, ?_⟩⟩
    have htH : H t = none := G6.dom t htn
    have G7 : Gr [] I H I7 H7 := gt.then g7 (by simp [htH])
    have G8 := G7.frz ht7 htH
    have h78 : Same I7 (upd I7 t (.ins Ct dx [("results", .ref r), ("prices", .ref p)])) := fun q u e => by
      by_cases hq : q = t
      · subst hq; rw [g7.out hIt upd_same] at e; cases e
      · rw [upd_ne hq]; exact e
    have htab : TabAt Z Ct (upd I7 t (.ins Ct dx [("results", .ref r), ("prices", .ref p)])) t J (tollsOf J ws) := ⟨dx, r, p, upd_same, dp_mono h78 hr7, dp_mono h78 hp7⟩
    have hwt : w ≠ t := fun e => by subst e; exact hw6.ne htn
    have hwdx : w ≠ dx := fun e => by subst e; exact hw6.ne hdxn
    have hw7 : WellAt H7 w (27 + 3 * n) := hw6.keep fun o e => g7.keep _ _ (by rw [upd_ne hwt, upd_ne hwdx]; exact e) (by simp [hwt])
    have wI7 : upd I7 t (.ins Ct dx [("results", .ref r), ("prices", .ref p)]) w = none := by
      rw [upd_ne hwt]
      obtain ⟨x1, x2, x3, e, _⟩ := hw6
      exact g7.out wI6 (o := .lst [.int x1, .int x2, .int x3]) (by rw [upd_ne hwt, upd_ne hwdx]; exact e)
    have dJ8 := dp_mono (g7.ii.trans h78) (dp_mono g6.ii dJ5)
    have dP8 := dp_mono (g7.ii.trans h78) (dp_mono g6.ii hP)
    generalize upd I7 t (.ins Ct dx [("results", .ref r), ("prices", .ref p)]) = I8 at G8 htab wI7 dJ8 dP8
    -- row
    repeat walk_at "y"
    refine we_call B L.row (room_le hr (by decide)) passZ (by walk_at "mem") ?_
    repeat walk_at "y"
    refine ⟨I8, w, n, 8, _, rfl, G8.sub, wI7, hw7, by omega, n1, n5, by decide, by decide, fun vR row I9 H9 r1 r2 r3 g9 hw9 dR => ?_⟩
    have G9 : Gr [] I H I9 H9 := G8.then g9 (by simp [w0])
    have wI9 := hw7.out g9 wI7
    have htab9 := tab_mono g9.ii htab
    have hrk : Rok row n := ⟨r1, r2, r3⟩
    -- yard
    repeat walk_at "y"
    refine we_make B L.mkY (room_le hr (by decide)) passZ (by walk_at "mem") ?_
    repeat walk_at "y"
    intro y dy hyn hdyn hney
    have gy := (G9.tmp (o := .own y) hdyn).tmp (p := y) (o := .ins C dy []) (by rw [upd_ne (Ne.symm hney)]; exact hyn)
    refine ⟨I9, y, dy, t, vR, J, tollsOf J ws, row, n, rfl, gy.sub, G9.out' hyn, upd_same, htab9, hJ, dR, hrk, fun I10 H10 a ea g10 Y10 hfresh => ⟨rfl, ?_⟩⟩
    have hyH : H y = none := G9.dom y hyn
    have G10 : Gr [] I H I10 H10 := gy.then g10 (by simp [hyH])
    have hwy : w ≠ y := fun e => by subst e; exact hw9.ne hyn
    have hwdy : w ≠ dy := fun e => by subst e; exact hw9.ne hdyn
    have hwu : ∀ o, H9 w = some o → upd (upd H9 dy (.own y)) y (.ins C dy []) w = some o := fun o e => by rw [upd_ne hwy, upd_ne hwdy]; exact e
    have hw10 : WellAt H10 w (27 + 3 * n + 9) := hw9.keep fun o e => g10.keep _ _ (hwu o e) (by simp [hwy])
    have wI10 : I10 w = none := by
      obtain ⟨x1, x2, x3, e, _⟩ := hw9
      exact g10.out wI9 (hwu _ e)
    have hwo : w ∉ a.own y := fun hm => by
      rcases List.mem_cons.mp hm with e | hm
      · exact hwy e
      · have e := hfresh w hm
        obtain ⟨x1, x2, x3, e', _⟩ := hw9
        rw [hwu _ e'] at e; cases e
    have hown0 : ∀ p ∈ a.own y, H p = none := fun p hp => by
      rcases List.mem_cons.mp hp with e | hm
      · rw [e]; exact hyH
      · exact gy.dom p (hfresh p hm)
    refine exu (by walk_at "up") ?_
    exact q w t y a vJ vP vR J ws row n I10 H10 ⟨G10, w0, wI10, hwo, hw10.le (by omega), hJ, e2, e3, hrk, dp_mono (g9.ii.trans g10.ii) dJ8, dp_mono (g9.ii.trans g10.ii) dP8, dp_mono g10.ii dR, tab_mono g10.ii htab9, Y10, hown0, .nil⟩
end Y

namespace Y
open PySem PySem.Spec PyProof.Rows L2
/-- membership, slots -/
local macro_rules | `(tactic| walk_at "mem") => `(tactic| (repeat (first | with_reducible exact List.mem_cons_self | with_reducible apply List.mem_cons_of_mem)))
local macro_rules | `(tactic| walk_at "at") => `(tactic| (repeat (first | with_reducible exact At2.z | with_reducible apply At2.s)))
local macro_rules | `(tactic| walk_at "up") => `(tactic| (repeat (first | with_reducible exact Up2.z | with_reducible apply Up2.s)))
local macro_rules | `(tactic| walk_at "upf") => `(tactic| (intro _; (repeat (first | with_reducible exact Up2.z | with_reducible apply Up2.s))))
local macro_rules | `(tactic| walk_at "sub") => `(tactic| (with_reducible first | assumption | exact Gr.sub (by assumption)))
/-- one step -/
local macro_rules | `(tactic| walk_at "y") => `(tactic| (with_reducible first
  | refine wss_cons ?_ | refine we_cst (by assumption) (by walk_at "mem") (by with_reducible assumption) ?_ | refine we_var (by assumption) (by walk_at "at") ?_ | refine we_int ?_ | refine we_negC ?_ | refine we_bl ?_ | refine we_non ?_ | refine we_str ?_
  | refine wa_cons ?_ | refine wa_nil ?_ | refine wk_cons ?_ | refine wk_nil ?_
  | refine we_ty (by assumption) (by walk_at "mem") (Std.int (by assumption)) b_int ?_ | refine we_ty (by assumption) (by walk_at "mem") (Std.bool (by assumption)) b_bool ?_
  | refine we_ty (by assumption) (by walk_at "mem") (Std.list (by assumption)) b_list ?_ | refine we_ty (by assumption) (by walk_at "mem") (Std.tuple (by assumption)) b_tuple ?_ | refine we_ty (by assumption) (by walk_at "mem") (Std.str (by assumption)) b_str ?_
  | refine we_bin ?_ | refine bo_add ?_ | refine bo_sub ?_ | refine bo_lt ?_ | refine bo_le ?_ | refine bo_gt ?_ | refine bo_ge ?_ | refine bo_eqI ?_ | refine bo_neI ?_ | refine bo_eqS ?_ | refine bo_neS ?_ | refine bo_eqB ?_ | refine bo_neB ?_ | refine bo_isN ?_ | refine bo_notN ?_
  | refine we_cmp ?_ | refine we_and ?_ | refine we_or ?_ | refine we_one ?_ | refine we_not ?_ | refine we_if ?_ | refine we_chain ?_
  | refine wt_cmp ?_ | refine wt_not ?_ | refine wt_bool ?_ | refine ww_and ?_ | refine ww_or ?_ | refine ww_and1 ?_ | refine ww_or1 ?_ | refine wt_chain ?_
  | refine we_callB (by assumption) (by walk_at "mem") (Std.isinstance (by assumption)) b_isinstance ?_ | refine we_callB (by assumption) (by walk_at "mem") (Std.len (by assumption)) b_len ?_
  | refine we_callTy (by assumption) (by walk_at "mem") (Std.int (by assumption)) b_int ?_
  | refine isi_int (by assumption) (by walk_at "sub") (by assumption) ?_ | refine isi_bool (by assumption) (by walk_at "sub") (by assumption) ?_ | refine isi_list (by assumption) (by walk_at "sub") (by assumption) ?_ | refine isi_tup (by assumption) (by walk_at "sub") (by assumption) ?_ | refine isi_str (by assumption) (by walk_at "sub") (by assumption) ?_
  | refine co_int ?_ | refine co_intB ?_
  | refine we_tup ?_ | refine we_lst ?_ | refine we_ix ?_ | refine we_slice ?_ | refine wo_none ?_ | refine wo_some ?_
  | refine ws_set (by assumption) ?_ | refine ws_ret ?_ | refine ws_if ?_ | refine ws_expr ?_ | refine ws_retN ?_ | refine ws_pass ?_ | refine ws_break ?_ | refine ws_cont ?_ | refine wss_nil ?_
  | refine iteT ?_ | refine iteF ?_ | refine exb ?_ | refine exi ?_ | refine exv ?_ | refine exu (by walk_at "up") ?_ | refine wt_call ?_
  | refine we_callK (by assumption) (by with_reducible assumption) (room_le (by assumption) (by decide)) passZ (by walk_at "mem") ?_
  | refine we_call (by assumption) (by with_reducible assumption) (room_le (by assumption) (by decide)) passZ (by walk_at "mem") ?_))

section
variable {Z : Wd} {C Ct w t y : Addr} {a : Ya} {vJ vP vR : V} {J : List (List Int)} {ws row : List Int} {n : Nat} {I0 H0 I H I' H' : Hp} {k k' : Nat} {fs fs' : List Tree} {ds ds' : List (Bool × Int)}
theorem LS.upd (h : LS Z C Ct w t y a vJ vP vR J ws row n I0 H0 I H k fs ds) (g2 : Gr (a.own y) I H I' H') (Y' : YardAt Z C Ct I' H' y a J (tollsOf J ws) row fs' ds') (p' : Path (seeds row.length) ds' fs') : LS Z C Ct w t y a vJ vP vR J ws row n I0 H0 I' H' k fs' ds' :=
  ⟨h.g.then g2 fun p hp => .inl (h.y0 p hp), h.w0, h.wl.out g2 h.wI, h.wo, h.wl.keep fun o e => g2.keep _ _ e h.wo, h.jok, h.wsl, h.wsb, h.rok, dp_mono g2.ii h.dJ, dp_mono g2.ii h.dP, dp_mono g2.ii h.dR, tab_mono g2.ii h.tab, Y', h.y0, p'⟩
theorem LS.well (h : LS Z C Ct w t y a vJ vP vR J ws row n I0 H0 I H k fs ds) (g2 : Gr [w] I H I' H') (hw : WellAt H' w k') : LS Z C Ct w t y a vJ vP vR J ws row n I0 H0 I' H' k' fs ds :=
  ⟨h.g.then g2 (by simp [h.w0]), h.w0, h.wl.out g2 h.wI, h.wo, hw, h.jok, h.wsl, h.wsb, h.rok, dp_mono g2.ii h.dJ, dp_mono g2.ii h.dP, dp_mono g2.ii h.dR, tab_mono g2.ii h.tab, h.yd.mono g2 fun p hp e => by rw [List.mem_singleton] at e; subst e; exact h.wo hp, h.y0, h.pa⟩
theorem LS.idle (h : LS Z C Ct w t y a vJ vP vR J ws row n I0 H0 I H k fs ds) (g2 : Gr [] I H I' H') : LS Z C Ct w t y a vJ vP vR J ws row n I0 H0 I' H' k fs ds :=
  h.well (g2.mono (by simp)) (h.wl.keep fun o e => g2.keep _ _ e (by simp))
theorem LS.paid (h : LS Z C Ct w t y a vJ vP vR J ws row n I0 H0 I H k fs ds) : totF J (tollsOf J ws) row fs = wSum ws row - wSum ws (fs.map (kdT J row)) := totF_worth h.jok h.wsl h.rok.2.2 h.yd.lv
end
theorem law_B {Z : Wd} {C Ct : Addr} {X : Cx} {E : XK} {D : Ends} {I0 H0 I H : Hp} {v : V} {c : Int} {w t y : Addr} {a : Ya} {vJ vP vR : V} {J : List (List Int)} {ws row : List Int} {n : Nat} {u9 u10 u11 u12 u13 u14 u15 u16 : Option V} (B : Bd Z X n_law (defScope s_law) m_law g_law) (R : Fr2 Z X 10 E) (T : Std Z) (L : LawFns Z C Ct)
    (h : LS Z C Ct w t y a vJ vP vR J ws row n I0 H0 I H 60 (seeds row.length) [])
    (q : ∀ I' H' fs ds u9 u10 u11, LS Z C Ct w t y a vJ vP vR J ws row n I0 H0 I' H' 200 fs ds → ds.length ≤ 200 → WSs X (lawFor.drop 8) D [some v, some (.int c), some (.ref w), some (.int (n : Nat)), some vJ, some vP, some (.ref t), some vR, some (.ref y), u9, u10, u11, u12, u13, u14, u15, u16] H') :
    WSs X (lawFor.drop 7) D [some v, some (.int c), some (.ref w), some (.int (n : Nat)), some vJ, some vP, some (.ref t), some vR, some (.ref y), u9, u10, u11, u12, u13, u14, u15, u16] H := by
  have hr := R.room
  refine wss_cons ?_
  refine ws_for B R.po (wi_range1 B (by walk_at "mem") T.range ?_)
  refine we_call B L.draw (room_le hr (by decide)) passZ (by walk_at "mem") ?_
  repeat walk_at "y"
  refine ⟨I, w, _, 60, rfl, h.g.sub, h.wI, h.wl, by decide, by decide, by decide, fun z H1 z0 z1 g1 hw1 => ?_⟩
  have h1 := h.well g1 hw1
  have hseq := h1.dP
  refine ⟨z, rfl, by omega, by omega, fi_range (fun i σ H' => ∃ u9 u10 u11 fs ds I', σ = [some v, some (.int c), some (.ref w), some (.int (n : Nat)), some vJ, some vP, some (.ref t), some vR, some (.ref y), u9, u10, u11, u12, u13, u14, u15, u16] ∧ LS Z C Ct w t y a vJ vP vR J ws row n I0 H0 I' H' (61 + i) fs ds ∧ ds.length ≤ 3 * i)
    ⟨_, _, _, _, _, I, rfl, h1, Nat.le_refl _⟩ ?_ ?_⟩
  · rintro i σ H2 hi ⟨u9, u10, u11, fs, ds, I2, rfl, h2, hdl⟩
    refine wg_name B (by walk_at "up") (wss_cons ?_)
    have hrl := h2.rok.2.1
    have hrw : ∀ x ∈ row, 1 ≤ x ∧ x ≤ (ws.length : Int) := fun x hx => by rw [h2.wsl]; exact h2.rok.2.2 x hx
    repeat walk_at "y"
    refine we_call B L.poss (room_le hr (by decide)) passZ (by walk_at "mem") ?_
    repeat walk_at "y"
    refine ⟨I2, w, y, a, J, _, row, fs, ds, 61 + i, rfl, h2.g.sub, h2.wI, h2.wo, h2.wl, by omega, h2.yd, hrl, fun u d I3 H3 hd g3 hw3 hu => ?_⟩
    have h3 := h2.well g3 hw3
    repeat walk_at "y"
    rcases hd with rfl | ⟨⟨bb, at_⟩, rfl, pre, l, r, post, e2, e3⟩
    · cases hu
      refine iteF ?_
      repeat walk_at "y"
      exact ⟨_, _, _, fs, ds, I3, rfl, by rw [show 61 + (i + 1) = 61 + i + 1 by omega]; exact h3, by omega⟩
    · have e2' : at_ = ((pre.length : Nat) : Int) := e2
      subst e2'
      have hu0 := hu
      obtain ⟨tt, _, rfl, _, _⟩ := hu0.tup_inv
      rw [dec_non (by intro e; cases e)]
      refine iteT ?_
      have hfl : ∀ gs : List Tree, (gs.map Tree.leaves).flatten = upTo row.length → (gs.map (kdT J row)).length ≤ 1000 := fun gs hg => by rw [List.length_map]; have := (lv_len hg).1; omega
      repeat walk_at "y"
      refine io_T B h3.g.sub hu (atI_nn (by decide) rfl) fun v1 hv1 => ?_
      cases hv1
      cases bb with
      | true =>
        have e4 : fs = pre ++ l :: r :: post := e3
        subst e4
        repeat walk_at "y"
        refine ifd (fun _ => ?_) (fun h => absurd rfl h)
        refine we_meth B L.join (room_le hr (by decide)) passZ ?_
        repeat walk_at "y"
        refine ⟨y, _, _, rfl, h3.yd.obj, rfl, ?_⟩
        repeat walk_at "y"
        refine io_T B h3.g.sub hu (atI_nn (by decide) rfl) fun v2 hv2 => ?_
        cases hv2
        have hsq := sq_tolls h3.jok h3.wsl h3.wsb
        refine wa_nil ⟨I3, y, a, J, _, row, pre, l, r, post, ds, n, _, _, rfl, h3.g.sub, h3.yd, h3.jok, h3.rok, hsq, by omega, fun I4 H4 g4 Y4 => ?_⟩
        have h4 := h3.upd g4 Y4 (h3.pa.snoc ⟨pre, l, r, post, rfl, rfl, rfl⟩)
        have hu4 := dp_mono g4.ii hu
        repeat walk_at "y"
        -- paid
        refine we_meth0 B L.paid (room_le hr (by decide)) passZ ?_
        repeat walk_at "y"
        refine ⟨y, _, _, rfl, h4.yd.obj, rfl, I4, y, a, J, _, row, _, _, rfl, h4.yd, ?_⟩
        repeat walk_at "y"
        refine we_call B L.sum (room_le hr (by decide)) passZ (by walk_at "mem") ?_
        repeat walk_at "y"
        refine ⟨I4, _, _, ws, row, rfl, h4.g.sub, h4.dP, h4.dR, by omega, hrw, fun I5 H5 g5 => ?_⟩
        have h5 := h4.idle g5
        refine we_call B L.sum (room_le hr (by decide)) passZ (by walk_at "mem") ?_
        repeat walk_at "y"
        refine we_meth0 B L.rowM (room_le hr (by decide)) passZ ?_
        repeat walk_at "y"
        refine ⟨y, _, _, rfl, h5.yd.obj, rfl, I5, y, a, J, _, row, _, _, rfl, h5.g.sub, h5.yd, fun vr I6 H6 g6 hvr => ?_⟩
        have h6 := h5.idle g6
        repeat walk_at "y"
        refine ⟨I6, _, _, ws, _, rfl, h6.g.sub, h6.dP, hvr, hfl _ h6.yd.lv, fun x hx => ?_, fun I7 H7 g7 => ?_⟩
        · obtain ⟨tr, htr, rfl⟩ := List.mem_map.mp hx
          rw [h6.wsl]; exact h6.yd.kd h6.jok h6.rok htr
        have h7 := h6.idle g7
        repeat walk_at "y"
        refine ifnd (fun h => absurd h7.paid h) (fun _ => ?_)
        have hu7 := dp_mono (g5.ii.trans (g6.ii.trans g7.ii)) hu4
        repeat walk_at "y"
        refine io_T B h7.g.sub hu7 (atI_nn (by decide) rfl) fun v3 hv3 => ?_
        cases hv3
        repeat walk_at "y"
        refine ifd (fun _ => ?_) (fun h => absurd rfl h)
        -- part
        repeat walk_at "y"
        refine we_meth B L.part (room_le hr (by decide)) passZ ?_
        repeat walk_at "y"
        refine ⟨y, _, _, rfl, h7.yd.obj, rfl, ?_⟩
        repeat walk_at "y"
        refine io_T B h7.g.sub hu7 (atI_nn (by decide) rfl) fun v2 hv2 => ?_
        cases hv2
        refine wa_nil ⟨I7, y, a, J, _, row, pre, l, r, post, _, n, _, _, rfl, h7.g.sub, h7.yd, h7.jok, h7.rok, hsq, by rw [List.length_append]; simp only [List.length_cons, List.length_nil]; omega, fun I8 H8 g8 Y8 => ?_⟩
        have h8 := h7.upd g8 Y8 (h7.pa.snoc ⟨pre, l, r, post, rfl, rfl, rfl⟩)
        have hu8 := dp_mono g8.ii hu7
        repeat walk_at "y"
        refine ifnd (fun h => absurd rfl h) (fun _ => ?_)
        -- join
        repeat walk_at "y"
        refine we_meth B L.join (room_le hr (by decide)) passZ ?_
        repeat walk_at "y"
        refine ⟨y, _, _, rfl, h8.yd.obj, rfl, ?_⟩
        repeat walk_at "y"
        refine io_T B h8.g.sub hu8 (atI_nn (by decide) rfl) fun v2 hv2 => ?_
        cases hv2
        refine wa_nil ⟨I8, y, a, J, _, row, pre, l, r, post, _, n, _, _, rfl, h8.g.sub, h8.yd, h8.jok, h8.rok, hsq, by rw [List.length_append, List.length_append]; simp only [List.length_cons, List.length_nil]; omega, fun I9 H9 g9 Y9 => ?_⟩
        have h9 := h8.upd g9 Y9 (h8.pa.snoc ⟨pre, l, r, post, rfl, rfl, rfl⟩)
        repeat walk_at "y"
        refine ifnd (fun h => absurd rfl h) (fun _ => ?_)
        repeat walk_at "y"
        exact ⟨_, _, _, _, _, I9, rfl, by rw [show 61 + (i + 1) = 61 + i + 1 by omega]; exact h9, by rw [List.length_append, List.length_append, List.length_append]; simp only [List.length_cons, List.length_nil]; omega⟩
      | false =>
        have e4 : fs = pre ++ .nd l r :: post := e3
        subst e4
        repeat walk_at "y"
        refine ifd (fun h => absurd (show ("part" : Str) = "join" from h) (by decide +kernel)) (fun _ => ?_)
        refine we_meth B L.part (room_le hr (by decide)) passZ ?_
        repeat walk_at "y"
        refine ⟨y, _, _, rfl, h3.yd.obj, rfl, ?_⟩
        repeat walk_at "y"
        refine io_T B h3.g.sub hu (atI_nn (by decide) rfl) fun v2 hv2 => ?_
        cases hv2
        have hsq := sq_tolls h3.jok h3.wsl h3.wsb
        refine wa_nil ⟨I3, y, a, J, _, row, pre, l, r, post, ds, n, _, _, rfl, h3.g.sub, h3.yd, h3.jok, h3.rok, hsq, by omega, fun I4 H4 g4 Y4 => ?_⟩
        have h4 := h3.upd g4 Y4 (h3.pa.snoc ⟨pre, l, r, post, rfl, rfl, rfl⟩)
        have hu4 := dp_mono g4.ii hu
        repeat walk_at "y"
        -- paid
        refine we_meth0 B L.paid (room_le hr (by decide)) passZ ?_
        repeat walk_at "y"
        refine ⟨y, _, _, rfl, h4.yd.obj, rfl, I4, y, a, J, _, row, _, _, rfl, h4.yd, ?_⟩
        repeat walk_at "y"
        refine we_call B L.sum (room_le hr (by decide)) passZ (by walk_at "mem") ?_
        repeat walk_at "y"
        refine ⟨I4, _, _, ws, row, rfl, h4.g.sub, h4.dP, h4.dR, by omega, hrw, fun I5 H5 g5 => ?_⟩
        have h5 := h4.idle g5
        refine we_call B L.sum (room_le hr (by decide)) passZ (by walk_at "mem") ?_
        repeat walk_at "y"
        refine we_meth0 B L.rowM (room_le hr (by decide)) passZ ?_
        repeat walk_at "y"
        refine ⟨y, _, _, rfl, h5.yd.obj, rfl, I5, y, a, J, _, row, _, _, rfl, h5.g.sub, h5.yd, fun vr I6 H6 g6 hvr => ?_⟩
        have h6 := h5.idle g6
        repeat walk_at "y"
        refine ⟨I6, _, _, ws, _, rfl, h6.g.sub, h6.dP, hvr, hfl _ h6.yd.lv, fun x hx => ?_, fun I7 H7 g7 => ?_⟩
        · obtain ⟨tr, htr, rfl⟩ := List.mem_map.mp hx
          rw [h6.wsl]; exact h6.yd.kd h6.jok h6.rok htr
        have h7 := h6.idle g7
        repeat walk_at "y"
        refine ifnd (fun h => absurd h7.paid h) (fun _ => ?_)
        have hu7 := dp_mono (g5.ii.trans (g6.ii.trans g7.ii)) hu4
        repeat walk_at "y"
        refine io_T B h7.g.sub hu7 (atI_nn (by decide) rfl) fun v3 hv3 => ?_
        cases hv3
        repeat walk_at "y"
        refine ifd (fun h => absurd (show ("part" : Str) = "join" from h) (by decide +kernel)) (fun _ => ?_)
        refine iteF ?_
        repeat walk_at "y"
        exact ⟨_, _, _, _, _, I7, rfl, by rw [show 61 + (i + 1) = 61 + i + 1 by omega]; exact h7, by rw [List.length_append]; simp only [List.length_cons, List.length_nil]; omega⟩
  · rintro σ H2 ⟨u9, u10, u11, fs, ds, I2, rfl, h2, hdl⟩
    exact q I2 H2 fs ds _ _ _ (h2.well (Gr.refl h2.g.sub) (h2.wl.le (by omega))) (by omega)
end Y

namespace Y
open PySem PySem.Spec PyProof.Rows L2
/-- membership, slots -/
local macro_rules | `(tactic| walk_at "mem") => `(tactic| (repeat (first | with_reducible exact List.mem_cons_self | with_reducible apply List.mem_cons_of_mem)))
local macro_rules | `(tactic| walk_at "at") => `(tactic| (repeat (first | with_reducible exact At2.z | with_reducible apply At2.s)))
local macro_rules | `(tactic| walk_at "up") => `(tactic| (repeat (first | with_reducible exact Up2.z | with_reducible apply Up2.s)))
local macro_rules | `(tactic| walk_at "upf") => `(tactic| (intro _; (repeat (first | with_reducible exact Up2.z | with_reducible apply Up2.s))))
local macro_rules | `(tactic| walk_at "sub") => `(tactic| (with_reducible first | assumption | exact Gr.sub (by assumption)))
/-- one step -/
local macro_rules | `(tactic| walk_at "y") => `(tactic| (with_reducible first
  | refine wss_cons ?_ | refine we_cst (by assumption) (by walk_at "mem") (by with_reducible assumption) ?_ | refine we_var (by assumption) (by walk_at "at") ?_ | refine we_int ?_ | refine we_negC ?_ | refine we_bl ?_ | refine we_non ?_ | refine we_str ?_
  | refine wa_cons ?_ | refine wa_nil ?_ | refine wk_cons ?_ | refine wk_nil ?_
  | refine we_ty (by assumption) (by walk_at "mem") (Std.int (by assumption)) b_int ?_ | refine we_ty (by assumption) (by walk_at "mem") (Std.bool (by assumption)) b_bool ?_
  | refine we_ty (by assumption) (by walk_at "mem") (Std.list (by assumption)) b_list ?_ | refine we_ty (by assumption) (by walk_at "mem") (Std.tuple (by assumption)) b_tuple ?_ | refine we_ty (by assumption) (by walk_at "mem") (Std.str (by assumption)) b_str ?_
  | refine we_bin ?_ | refine bo_add ?_ | refine bo_sub ?_ | refine bo_lt ?_ | refine bo_le ?_ | refine bo_gt ?_ | refine bo_ge ?_ | refine bo_eqI ?_ | refine bo_neI ?_ | refine bo_eqS ?_ | refine bo_neS ?_ | refine bo_eqB ?_ | refine bo_neB ?_ | refine bo_isN ?_ | refine bo_notN ?_
  | refine we_cmp ?_ | refine we_and ?_ | refine we_or ?_ | refine we_one ?_ | refine we_not ?_ | refine we_if ?_ | refine we_chain ?_
  | refine wt_cmp ?_ | refine wt_not ?_ | refine wt_bool ?_ | refine ww_and ?_ | refine ww_or ?_ | refine ww_and1 ?_ | refine ww_or1 ?_ | refine wt_chain ?_
  | refine we_callB (by assumption) (by walk_at "mem") (Std.isinstance (by assumption)) b_isinstance ?_ | refine we_callB (by assumption) (by walk_at "mem") (Std.len (by assumption)) b_len ?_
  | refine we_callTy (by assumption) (by walk_at "mem") (Std.int (by assumption)) b_int ?_
  | refine isi_int (by assumption) (by walk_at "sub") (by assumption) ?_ | refine isi_bool (by assumption) (by walk_at "sub") (by assumption) ?_ | refine isi_list (by assumption) (by walk_at "sub") (by assumption) ?_ | refine isi_tup (by assumption) (by walk_at "sub") (by assumption) ?_ | refine isi_str (by assumption) (by walk_at "sub") (by assumption) ?_
  | refine co_int ?_ | refine co_intB ?_
  | refine we_tup ?_ | refine we_lst ?_ | refine we_ix ?_ | refine we_slice ?_ | refine wo_none ?_ | refine wo_some ?_
  | refine ws_set (by assumption) ?_ | refine ws_ret ?_ | refine ws_if ?_ | refine ws_expr ?_ | refine ws_retN ?_ | refine ws_pass ?_ | refine ws_break ?_ | refine ws_cont ?_ | refine wss_nil ?_
  | refine iteT ?_ | refine iteF ?_ | refine exb ?_ | refine exi ?_ | refine exv ?_ | refine exu (by walk_at "up") ?_ | refine wt_call ?_
  | refine we_callK (by assumption) (by with_reducible assumption) (room_le (by assumption) (by decide)) passZ (by walk_at "mem") ?_
  | refine we_call (by assumption) (by with_reducible assumption) (room_le (by assumption) (by decide)) passZ (by walk_at "mem") ?_))

/-- the other yard -/
structure OS (Z : Wd) (C Ct w y o : Addr) (a b : Ya) (J : List (List Int)) (ws row : List Int) (H0 I H : Hp) (gs : List Tree) (es : List (Bool × Int)) : Prop where
  yd : YardAt Z C Ct I H o b J (tollsOf J ws) row gs es
  pa : Path (seeds row.length) es gs
  o0 : ∀ p ∈ b.own o, H0 p = none
  od : ∀ p ∈ b.own o, p ≠ w ∧ p ∉ a.own y
section
variable {Z : Wd} {C Ct w t y o : Addr} {a b : Ya} {vJ vP vR : V} {J : List (List Int)} {ws row : List Int} {n : Nat} {I0 H0 I H I' H' : Hp} {k k' : Nat} {fs fs' gs gs' : List Tree} {ds ds' es es' : List (Bool × Int)}
theorem LS.other (h : LS Z C Ct w t y a vJ vP vR J ws row n I0 H0 I H k fs ds) (g2 : Gr (b.own o) I H I' H') (h0 : ∀ p ∈ b.own o, H0 p = none) (hd : ∀ p ∈ b.own o, p ≠ w ∧ p ∉ a.own y) : LS Z C Ct w t y a vJ vP vR J ws row n I0 H0 I' H' k fs ds :=
  ⟨h.g.then g2 fun p hp => .inl (h0 p hp), h.w0, h.wl.out g2 h.wI, h.wo, h.wl.keep fun o' e => g2.keep _ _ e fun z => (hd _ z).1 rfl, h.jok, h.wsl, h.wsb, h.rok, dp_mono g2.ii h.dJ, dp_mono g2.ii h.dP, dp_mono g2.ii h.dR, tab_mono g2.ii h.tab, h.yd.mono g2 fun p hp z => (hd _ z).2 hp, h.y0, h.pa⟩
theorem OS.own (h : OS Z C Ct w y o a b J ws row H0 I H gs es) (Y' : YardAt Z C Ct I' H' o b J (tollsOf J ws) row gs' es') (p' : Path (seeds row.length) es' gs') : OS Z C Ct w y o a b J ws row H0 I' H' gs' es' := ⟨Y', p', h.o0, h.od⟩
theorem OS.keep (h : OS Z C Ct w y o a b J ws row H0 I H gs es) {S : List Addr} (g2 : Gr S I H I' H') (hS : ∀ p ∈ S, p = w ∨ p ∈ a.own y) : OS Z C Ct w y o a b J ws row H0 I' H' gs es :=
  ⟨h.yd.mono g2 fun p hp z => by
    rcases hS p z with e | e
    · exact (h.od p hp).1 e
    · exact (h.od p hp).2 e, h.pa, h.o0, h.od⟩
theorem OS.idle (h : OS Z C Ct w y o a b J ws row H0 I H gs es) (g2 : Gr [] I H I' H') : OS Z C Ct w y o a b J ws row H0 I' H' gs es := h.keep g2 (by simp)
end
theorem law_C {Z : Wd} {C Ct : Addr} {X : Cx} {E : XK} {D : Ends} {I0 H0 I H : Hp} {v : V} {c : Int} {w t y : Addr} {a : Ya} {vJ vP vR : V} {J : List (List Int)} {ws row : List Int} {n : Nat} {fs : List Tree} {ds : List (Bool × Int)} {u9 u10 u11 u12 u13 u14 u15 u16 : Option V} (B : Bd Z X n_law (defScope s_law) m_law g_law) (R : Fr2 Z X 10 E) (T : Std Z) (L : LawFns Z C Ct)
    (h : LS Z C Ct w t y a vJ vP vR J ws row n I0 H0 I H 200 fs ds)
    (q : ∀ I' H' o b vO od t1 es u14, LS Z C Ct w t y a vJ vP vR J ws row n I0 H0 I' H' 208 fs ds → OS Z C Ct w y o a b J ws row H0 I' H' [t1] es → es.length ≤ 8 → Dp Z.K I' vO (dI od) → Ook od row.length → totF J (tollsOf J ws) row [t1] = totR J (tollsOf J ws) row od → kdT J row t1 = endR J row od →
      WSs X (lawFor.drop 11) D [some v, some (.int c), some (.ref w), some (.int (n : Nat)), some vJ, some vP, some (.ref t), some vR, some (.ref y), u9, u10, u11, some (.ref o), some vO, u14, u15, u16] H') :
    WSs X (lawFor.drop 8) D [some v, some (.int c), some (.ref w), some (.int (n : Nat)), some vJ, some vP, some (.ref t), some vR, some (.ref y), u9, u10, u11, u12, u13, u14, u15, u16] H := by
  have hr := R.room
  have hrl := h.rok.2.1
  have hrl1 := h.rok.1
  refine wss_cons ?_
  repeat walk_at "y"
  refine we_make B L.mkY (room_le hr (by decide)) passZ (by walk_at "mem") ?_
  repeat walk_at "y"
  intro o dy hon hdyn hney
  have gy := ((Gr.refl h.g.sub (S := [])).tmp (o := .own o) hdyn).tmp (p := o) (o := .ins C dy []) (by rw [upd_ne (Ne.symm hney)]; exact hon)
  have hoI : I o = none := h.g.out' hon
  refine ⟨I, o, dy, t, vR, J, tollsOf J ws, row, n, rfl, gy.sub, hoI, upd_same, h.tab, h.jok, h.dR, h.rok, fun I1 H1 b eb g1 Y1 hfresh => ⟨rfl, ?_⟩⟩
  have G1 : Gr [] I H I1 H1 := gy.then g1 (by simp [hon])
  have h1 := h.idle G1
  have hex : ∀ p, H p ≠ none → p ∉ b.own o := fun p hp hm => by
    rcases List.mem_cons.mp hm with e | hm
    · exact hp (by rw [e]; exact hon)
    · exact hp (gy.dom p (hfresh p hm))
  have hyex : ∀ p ∈ a.own y, H p ≠ none := fun p hp => by
    simp only [Ya.own, List.mem_cons, List.not_mem_nil, or_false] at hp
    obtain ⟨us, e1, _⟩ := h.yd.fo
    obtain ⟨xs, e2, _⟩ := h.yd.ki
    obtain ⟨vs, e3, _⟩ := h.yd.de
    rcases hp with e | e | e | e | e <;> subst e
    · rw [h.yd.obj]; simp
    · rw [h.yd.go]; simp
    · rw [e1]; simp
    · rw [e2]; simp
    · rw [e3]; simp
  have o1 : OS Z C Ct w y o a b J ws row H0 I1 H1 (seeds row.length) [] := ⟨Y1, .nil, fun p hp => by
      rcases List.mem_cons.mp hp with e | hm
      · rw [e]; exact h.g.dom o hon
      · exact h.g.dom p (gy.dom p (hfresh p hm)), fun p hp => ⟨fun e => by subst e; exact hex _ h.wl.ne hp, fun z => hex p (hyex p z) hp⟩⟩
  repeat walk_at "y"
  refine we_call B L.order (room_le hr (by decide)) passZ (by walk_at "mem") ?_
  repeat walk_at "y"
  refine co_len B h1.g.sub (.inl h1.dR) ?_
  rw [List.length_map]
  refine wa_nil ⟨I1, w, row.length, 200, rfl, h1.g.sub, h1.wI, h1.wl, by decide, hrl1, hrl, fun vO od I2 H2 hok g2 hw2 hO => ?_⟩
  have h2 := h1.well g2 hw2
  have o2 := o1.keep g2 (by simp)
  obtain ⟨ao, rfl, hsqo⟩ := dI_inv hO
  have hol := hok.len
  repeat walk_at "y"
  have sl : (seeds row.length).length = row.length := by unfold seeds; rw [List.length_map, List.length_range]
  refine ws_for B R.po (wi_list ?_)
  repeat walk_at "y"
  refine ⟨ao, rfl, ⟨_, B.sqL (h2.g.sub.seq hsqo)⟩, fi_list (xs := od.map V.int) (fun r σ H' => ∃ u14 rest gs es I', σ = [some v, some (.int c), some (.ref w), some (.int (n : Nat)), some vJ, some vP, some (.ref t), some vR, some (.ref y), u9, u10, u11, some (.ref o), some (.ref ao), u14, u15, u16] ∧ r = rest.map V.int ∧ Ook rest gs.length ∧ LS Z C Ct w t y a vJ vP vR J ws row n I0 H0 I' H' 208 fs ds ∧ OS Z C Ct w y o a b J ws row H0 I' H' gs es ∧ Same I2 I' ∧
    es.length + rest.length ≤ 8 ∧ totF J (tollsOf J ws) row gs + totR J (tollsOf J ws) (gs.map (kdT J row)) rest = totR J (tollsOf J ws) row od ∧ endR J (gs.map (kdT J row)) rest = endR J row od)
    ⟨_, od, seeds row.length, [], I2, rfl, rfl, by rw [sl]; exact hok, h2, o2, Same.refl _, by simp; omega, by rw [seeds_tot, seeds_kd]; omega, by rw [seeds_kd]⟩ (fun r σ H' ⟨_, _, _, _, I', _, _, _, h', _, s', _⟩ => B.sqL (h'.g.sub.seq (s'.seq hsqo))) ?_ ?_⟩
  · rintro x r σ H3 ⟨u14', rest, gs, es, I3, rfl, er, hor, h3, o3, s3, hel, ht, he⟩
    obtain ⟨rfl, _⟩ | ⟨z, rest, kk, rfl, hk, z0, z1, hor2⟩ := hor.inv
    · cases er
    · cases er
      refine wg_name B (by walk_at "up") (wss_cons ?_)
      obtain ⟨zn, rfl⟩ := Int.eq_ofNat_of_zero_le z0
      obtain ⟨pre, l, rr, post, e1, e2⟩ := can_join (fs := gs) (i := zn) (by omega)
      have e2' : gs = pre ++ l :: rr :: post := e2
      have e1' : zn = pre.length := by have : (zn : Int) = ((pre.length : Nat) : Int) := e1; omega
      subst e2' e1'
      rw [List.length_cons] at hel
      repeat walk_at "y"
      refine we_meth B L.join (room_le hr (by decide)) passZ ?_
      repeat walk_at "y"
      refine ⟨o, _, _, rfl, o3.yd.obj, rfl, ?_⟩
      repeat walk_at "y"
      refine ⟨I3, o, b, J, _, row, pre, l, rr, post, es, n, _, _, rfl, h3.g.sub, o3.yd, h3.jok, h3.rok, sq_tolls h3.jok h3.wsl h3.wsb, by omega, fun I4 H4 g4 Y4 => ?_⟩
      have h4 := h3.other g4 o3.o0 o3.od
      have o4 := o3.own Y4 (o3.pa.snoc ⟨pre, l, rr, post, rfl, rfl, rfl⟩)
      repeat walk_at "y"
      refine ⟨_, rest, _, _, I4, rfl, rfl, ?_, h4, o4, s3.trans g4.ii, by rw [List.length_append, List.length_cons, List.length_nil]; omega, ?_, ?_⟩
      · have : (pre ++ Tree.nd l rr :: post).length = kk := by rw [List.length_append, List.length_cons] at *; rw [List.length_cons] at hk; omega
        rw [this]; exact hor2
      · have e5 : totR J (tollsOf J ws) ((pre ++ l :: rr :: post).map (kdT J row)) ((pre.length : Int) :: rest) = cel (tollsOf J ws) (kdT J row l) (kdT J row rr) + totR J (tollsOf J ws) ((pre ++ .nd l rr :: post).map (kdT J row)) rest := by
          show costR _ _ _ + totR J _ (stepR J _ _) rest = _
          rw [costR_F, stepR_F]
        rw [totF_step]
        rw [e5] at ht
        omega
      · have e5 : endR J ((pre ++ l :: rr :: post).map (kdT J row)) ((pre.length : Int) :: rest) = endR J ((pre ++ .nd l rr :: post).map (kdT J row)) rest := by
          show endR J (stepR J _ _) rest = _
          rw [stepR_F]
        rw [e5] at he; exact he
  · rintro σ H3 ⟨u14', rest, gs, es, I3, rfl, er, hor, h3, o3, s3, hel, ht, he⟩
    obtain ⟨rfl, hg1⟩ | ⟨z, rest, kk, rfl, _⟩ := hor.inv
    case inr => cases er
    obtain ⟨t1, rfl⟩ : ∃ t1, gs = [t1] := by
      cases gs with
      | nil => simp at hg1
      | cons t1 r => cases r with
        | nil => exact ⟨t1, rfl⟩
        | cons _ _ => simp at hg1
    exact q I3 H3 o b _ od t1 es _ h3 o3 (by simpa using hel) (dp_mono s3 hO) hok (by rw [← ht]; show _ = _ + 0; omega) he
end Y

namespace Y
open PySem PySem.Spec PyProof.Rows L2
/-- membership, slots -/
local macro_rules | `(tactic| walk_at "mem") => `(tactic| (repeat (first | with_reducible exact List.mem_cons_self | with_reducible apply List.mem_cons_of_mem)))
local macro_rules | `(tactic| walk_at "at") => `(tactic| (repeat (first | with_reducible exact At2.z | with_reducible apply At2.s)))
local macro_rules | `(tactic| walk_at "up") => `(tactic| (repeat (first | with_reducible exact Up2.z | with_reducible apply Up2.s)))
local macro_rules | `(tactic| walk_at "upf") => `(tactic| (intro _; (repeat (first | with_reducible exact Up2.z | with_reducible apply Up2.s))))
local macro_rules | `(tactic| walk_at "sub") => `(tactic| (with_reducible first | assumption | exact Gr.sub (by assumption)))
/-- one step -/
local macro_rules | `(tactic| walk_at "y") => `(tactic| (with_reducible first
  | refine wss_cons ?_ | refine we_cst (by assumption) (by walk_at "mem") (by with_reducible assumption) ?_ | refine we_var (by assumption) (by walk_at "at") ?_ | refine we_int ?_ | refine we_negC ?_ | refine we_bl ?_ | refine we_non ?_ | refine we_str ?_
  | refine wa_cons ?_ | refine wa_nil ?_ | refine wk_cons ?_ | refine wk_nil ?_
  | refine we_ty (by assumption) (by walk_at "mem") (Std.int (by assumption)) b_int ?_ | refine we_ty (by assumption) (by walk_at "mem") (Std.bool (by assumption)) b_bool ?_
  | refine we_ty (by assumption) (by walk_at "mem") (Std.list (by assumption)) b_list ?_ | refine we_ty (by assumption) (by walk_at "mem") (Std.tuple (by assumption)) b_tuple ?_ | refine we_ty (by assumption) (by walk_at "mem") (Std.str (by assumption)) b_str ?_
  | refine we_bin ?_ | refine bo_add ?_ | refine bo_sub ?_ | refine bo_lt ?_ | refine bo_le ?_ | refine bo_gt ?_ | refine bo_ge ?_ | refine bo_eqI ?_ | refine bo_neI ?_ | refine bo_eqS ?_ | refine bo_neS ?_ | refine bo_eqB ?_ | refine bo_neB ?_ | refine bo_isN ?_ | refine bo_notN ?_
  | refine we_cmp ?_ | refine we_and ?_ | refine we_or ?_ | refine we_one ?_ | refine we_not ?_ | refine we_if ?_ | refine we_chain ?_
  | refine wt_cmp ?_ | refine wt_not ?_ | refine wt_bool ?_ | refine ww_and ?_ | refine ww_or ?_ | refine ww_and1 ?_ | refine ww_or1 ?_ | refine wt_chain ?_
  | refine we_callB (by assumption) (by walk_at "mem") (Std.isinstance (by assumption)) b_isinstance ?_ | refine we_callB (by assumption) (by walk_at "mem") (Std.len (by assumption)) b_len ?_
  | refine we_callTy (by assumption) (by walk_at "mem") (Std.int (by assumption)) b_int ?_
  | refine isi_int (by assumption) (by walk_at "sub") (by assumption) ?_ | refine isi_bool (by assumption) (by walk_at "sub") (by assumption) ?_ | refine isi_list (by assumption) (by walk_at "sub") (by assumption) ?_ | refine isi_tup (by assumption) (by walk_at "sub") (by assumption) ?_ | refine isi_str (by assumption) (by walk_at "sub") (by assumption) ?_
  | refine co_int ?_ | refine co_intB ?_
  | refine we_tup ?_ | refine we_lst ?_ | refine we_ix ?_ | refine we_slice ?_ | refine wo_none ?_ | refine wo_some ?_
  | refine ws_set (by assumption) ?_ | refine ws_ret ?_ | refine ws_if ?_ | refine ws_expr ?_ | refine ws_retN ?_ | refine ws_pass ?_ | refine ws_break ?_ | refine ws_cont ?_ | refine wss_nil ?_
  | refine iteT ?_ | refine iteF ?_ | refine exb ?_ | refine exi ?_ | refine exv ?_ | refine exu (by walk_at "up") ?_ | refine wt_call ?_
  | refine we_callK (by assumption) (by with_reducible assumption) (room_le (by assumption) (by decide)) passZ (by walk_at "mem") ?_
  | refine we_call (by assumption) (by with_reducible assumption) (room_le (by assumption) (by decide)) passZ (by walk_at "mem") ?_))

theorem seeds_dI (m : Nat) : PyData.list ((seeds m).map dTr) = dI (upTo m) := by
  unfold seeds upTo dI; rw [List.map_map, List.map_map]; rfl
theorem law_D {Z : Wd} {C Ct : Addr} {X : Cx} {E : XK} {D : Ends} {I0 H0 I H : Hp} {v : V} {c : Int} {w t y o : Addr} {a b : Ya} {vJ vP vR vO : V} {J : List (List Int)} {ws row od : List Int} {n : Nat} {fs : List Tree} {ds es : List (Bool × Int)} {t1 : Tree} {u9 u10 u11 u14 u15 u16 : Option V} (B : Bd Z X n_law (defScope s_law) m_law g_law) (R : Fr2 Z X 10 E) (T : Std Z) (L : LawFns Z C Ct)
    (h : LS Z C Ct w t y a vJ vP vR J ws row n I0 H0 I H 208 fs ds) (ho : OS Z C Ct w y o a b J ws row H0 I H [t1] es) (hds : ds.length ≤ 200) (hes : es.length ≤ 8) (hO : Dp Z.K I vO (dI od)) (hok : Ook od row.length) (e1 : totF J (tollsOf J ws) row [t1] = totR J (tollsOf J ws) row od) (e2 : kdT J row t1 = endR J row od)
    (q : ∀ I' H' u15, Gr [] I0 H0 I' H' → D.nx [some v, some (.int c), some (.ref w), some (.int (n : Nat)), some vJ, some vP, some (.ref t), some vR, some (.ref y), u9, u10, u11, some (.ref o), some vO, u14, u15, u16] H') :
    WSs X (lawFor.drop 11) D [some v, some (.int c), some (.ref w), some (.int (n : Nat)), some vJ, some vP, some (.ref t), some vR, some (.ref y), u9, u10, u11, some (.ref o), some vO, u14, u15, u16] H := by
  have hr := R.room
  have hrl := h.rok.2.1
  have hsq := sq_tolls h.jok h.wsl h.wsb
  have ht1 : t1.leaves = upTo row.length := by have := ho.yd.lv; simpa using this
  have ht1l : t1.leaves.length = row.length := by rw [ht1, upTo_len]
  refine wss_cons ?_
  repeat walk_at "y"
  refine we_meth0 B L.rowM (room_le hr (by decide)) passZ ?_
  repeat walk_at "y"
  refine ⟨o, _, _, rfl, ho.yd.obj, rfl, I, o, b, J, _, row, _, _, rfl, h.g.sub, ho.yd, fun vr I1 H1 g1 hvr => ?_⟩
  have h1 := h.idle g1
  have o1 := ho.idle g1
  repeat walk_at "y"
  refine io_L B h1.g.sub hvr (d := .int (kdT J row t1)) (atI_nn (by decide) rfl) fun v1 hv1 => ?_
  cases hv1
  repeat walk_at "y"
  refine we_meth0 B L.paid (room_le hr (by decide)) passZ ?_
  repeat walk_at "y"
  refine ⟨o, _, _, rfl, o1.yd.obj, rfl, I1, o, b, J, _, row, _, _, rfl, o1.yd, ?_⟩
  refine wa_nil ⟨le_line (by decide : (2 : Nat) ≤ 16777216), fun p hp => ?_⟩
  have g2 := (Gr.refl h1.g.sub (S := [])).new (o := .tup [.int (kdT J row t1), .int (totF J (tollsOf J ws) row [t1])]) hp
  have h2 := h1.idle g2
  have o2 := o1.idle g2
  have hpd : Dp Z.K (upd I1 p (.tup [.int (kdT J row t1), .int (totF J (tollsOf J ws) row [t1])])) (.ref p) (tI [endR J row od, totR J (tollsOf J ws) row od]) := by rw [← e1, ← e2]; exact tI_of upd_same
  have hO2 := dp_mono (g1.ii.trans g2.ii) hO
  generalize upd I1 p (.tup [.int (kdT J row t1), .int (totF J (tollsOf J ws) row [t1])]) = I2 at g2 h2 o2 hpd hO2
  generalize upd H1 p (.tup [.int (kdT J row t1), .int (totF J (tollsOf J ws) row [t1])]) = H2 at g2 h2 o2 ⊢
  repeat walk_at "y"
  refine we_call B L.result (room_le hr (by decide)) passZ (by walk_at "mem") ?_
  repeat walk_at "y"
  refine ⟨I2, t, _, _, J, _, row, od, n, rfl, h2.g.sub, h2.tab, h2.jok, h2.dR, h2.rok, hO2, hok, ⟨_, _, hsq⟩, fun u3 I3 H3 g3 hu3 => ?_⟩
  have h3 := h2.idle g3
  have o3 := o2.idle g3
  refine bo_neD B hr h3.g.sub (dp_mono g3.ii hpd) hu3 (shaped_tI _) (shaped_tI _) ?_
  rw [eqv_tI]
  repeat walk_at "y"
  refine iteF ?_
  repeat walk_at "y"
  have hO3 := dp_mono g3.ii hO2
  -- by the tree's own order
  refine we_call B L.result (room_le hr (by decide)) passZ (by walk_at "mem") ?_
  repeat walk_at "y"
  refine we_call B L.orderOf (room_le hr (by decide)) passZ (by walk_at "mem") ?_
  repeat walk_at "y"
  refine we_meth0 B L.shapes (room_le hr (by decide)) passZ ?_
  repeat walk_at "y"
  refine ⟨o, _, _, rfl, o3.yd.obj, rfl, I3, o, b, J, _, row, _, _, rfl, h3.g.sub, o3.yd, fun vs I4 H4 g4 hvs => ?_⟩
  have h4 := h3.idle g4
  have o4 := o3.idle g4
  repeat walk_at "y"
  refine io_L B h4.g.sub hvs (d := dTr t1) (atI_nn (by decide) rfl) fun vt hvt => ?_
  refine wa_nil ⟨I4, vt, t1, rfl, h4.g.sub, hvt, by omega, by rw [ht1l]; exact ht1, fun vo I5 H5 g5 hvo => ?_⟩
  have h5 := h4.idle g5
  have o5 := o4.idle g5
  obtain ⟨m1, m2, m3⟩ := ordT_all (J := J) (T := tollsOf J ws) ht1
  refine wa_nil ⟨I5, t, _, _, J, _, row, orderT t1 0, n, rfl, h5.g.sub, h5.tab, h5.jok, h5.dR, h5.rok, hvo, m3, ⟨_, _, hsq⟩, fun u6 I6 H6 g6 hu6 => ?_⟩
  have h6 := h5.idle g6
  have o6 := o5.idle g6
  have eT : totF J (tollsOf J ws) row [t1] = coT J (tollsOf J ws) row t1 := by unfold totF; simp
  rw [m1, m2, ← eT, e1, e2] at hu6
  refine we_call B L.result (room_le hr (by decide)) passZ (by walk_at "mem") ?_
  repeat walk_at "y"
  refine ⟨I6, t, _, _, J, _, row, od, n, rfl, h6.g.sub, h6.tab, h6.jok, h6.dR, h6.rok, dp_mono (g4.ii.trans (g5.ii.trans g6.ii)) hO3, hok, ⟨_, _, hsq⟩, fun u7 I7 H7 g7 hu7 => ?_⟩
  have h7 := h6.idle g7
  have o7 := o6.idle g7
  refine bo_neD B hr h7.g.sub (dp_mono g7.ii hu6) hu7 (shaped_tI _) (shaped_tI _) ?_
  rw [eqv_tI]
  repeat walk_at "y"
  refine iteF ?_
  repeat walk_at "y"
  -- backwards
  refine we_call B L.back (room_le hr (by decide)) passZ (by walk_at "mem") ?_
  repeat walk_at "y"
  refine we_meth0 B L.history (room_le hr (by decide)) passZ ?_
  repeat walk_at "y"
  refine ⟨y, _, _, rfl, h7.yd.obj, rfl, I7, y, a, J, _, row, _, _, rfl, h7.g.sub, h7.yd, fun vh I8 H8 g8 hvh => ?_⟩
  have h8 := h7.idle g8
  have o8 := o7.idle g8
  refine wa_nil ⟨I8, y, vh, a, J, _, row, _, fs, ds, ds, n, _, _, rfl, h8.g.sub, h8.yd, hvh, h8.pa, by omega, h8.jok, h8.rok, hsq, fun I9 H9 ds9 g9 Y9 => ?_⟩
  have G9 : Gr [] I0 H0 I9 H9 := h8.g.then g9 fun p hp => .inl (h8.y0 p hp)
  have o9 := o8.keep g9 fun p hp => .inr hp
  have dR9 := dp_mono g9.ii h8.dR
  repeat walk_at "y"
  refine we_call B L.back (room_le hr (by decide)) passZ (by walk_at "mem") ?_
  repeat walk_at "y"
  refine we_meth0 B L.history (room_le hr (by decide)) passZ ?_
  repeat walk_at "y"
  refine ⟨o, _, _, rfl, o9.yd.obj, rfl, I9, o, b, J, _, row, _, _, rfl, G9.sub, o9.yd, fun vh2 I10 H10 g10 hvh2 => ?_⟩
  have o10 := o9.idle g10
  refine wa_nil ⟨I10, o, vh2, b, J, _, row, _, _, es, es, n, _, _, rfl, g10.sub, o10.yd, hvh2, o10.pa, by omega, h8.jok, h8.rok, hsq, fun I11 H11 es11 g11 Y11 => ?_⟩
  have G11 : Gr [] I0 H0 I11 H11 := (G9.trans g10).then g11 fun p hp => .inl (o10.o0 p hp)
  have Yy : YardAt Z C Ct I11 H11 y a J (tollsOf J ws) row (seeds row.length) ds9 := (Y9.mono0 g10).mono g11 fun p hp z => (o10.od p z).2 hp
  have dR11 := dp_mono (g10.ii.trans g11.ii) dR9
  repeat walk_at "y"
  refine ws_for B R.po (wi_tup ?_)
  repeat walk_at "y"
  refine ⟨le_line (by decide : (2 : Nat) ≤ 16777216), fun p2 hp2 => ⟨p2, rfl, ⟨_, .inl (.inl upd_same)⟩, ?_⟩⟩
  have g12 := (Gr.refl G11.sub (S := [])).new (o := .tup [.ref y, .ref o]) hp2
  have hp2I : upd I11 p2 (.tup [.ref y, .ref o]) p2 = some (.tup [.ref y, .ref o]) := upd_same
  have G12 := G11.trans g12
  have Yy2 := Yy.mono0 g12
  have Yo2 := Y11.mono0 g12
  have dR12 := dp_mono g12.ii dR11
  generalize upd I11 p2 (.tup [.ref y, .ref o]) = I12 at g12 hp2I G12 Yy2 Yo2 dR12
  generalize upd H11 p2 (.tup [.ref y, .ref o]) = H12 at g12 G12 Yy2 Yo2 ⊢
  refine fi_tup (xs := [.ref y, .ref o]) (fun r σ H' => ∃ u15 I', σ = [some v, some (.int c), some (.ref w), some (.int (n : Nat)), some vJ, some vP, some (.ref t), some vR, some (.ref y), u9, u10, u11, some (.ref o), some vO, u14, u15, u16] ∧ Gr [] I12 H12 I' H' ∧ ∀ x ∈ r, ∃ z a' d', x = .ref z ∧ YardAt Z C Ct I' H' z a' J (tollsOf J ws) row (seeds row.length) d')
    ⟨_, I12, rfl, .refl g12.sub, fun x hx => ?_⟩ (fun r σ H' ⟨_, I', _, g, _⟩ => .inl (.inl (g.sub _ _ (g.ii _ _ hp2I)))) ?_ ?_
  · rcases List.mem_cons.mp hx with e | hx
    · exact ⟨y, a, ds9, e, Yy2⟩
    · rw [List.mem_singleton] at hx; exact ⟨o, b, es11, hx, Yo2⟩
  · rintro x r σ H13 ⟨u15', I13, rfl, g13, hall⟩
    obtain ⟨z, a', d', rfl, Yz⟩ := hall x (by simp)
    refine wg_name B (by walk_at "up") (wss_cons ?_)
    have dR13 := dp_mono g13.ii dR12
    repeat walk_at "y"
    refine we_meth0 B L.paid (room_le hr (by decide)) passZ ?_
    repeat walk_at "y"
    refine ⟨z, _, _, rfl, Yz.obj, rfl, I13, z, a', J, _, row, _, _, rfl, Yz, ?_⟩
    rw [seeds_tot]
    repeat walk_at "y"
    refine iteF ?_
    repeat walk_at "y"
    refine we_meth0 B L.rowM (room_le hr (by decide)) passZ ?_
    repeat walk_at "y"
    refine ⟨z, _, _, rfl, Yz.obj, rfl, I13, z, a', J, _, row, _, _, rfl, g13.sub, Yz, fun vz I14 H14 g14 hvz => ?_⟩
    rw [seeds_kd] at hvz
    repeat walk_at "y"
    refine bo_neD B hr g14.sub hvz (dp_mono g14.ii dR13) (shaped_dI _) (shaped_dI _) ?_
    rw [eqv_dI]
    have Yz14 := Yz.mono0 g14
    repeat walk_at "y"
    refine iteF ?_
    repeat walk_at "y"
    refine we_meth0 B L.shapes (room_le hr (by decide)) passZ ?_
    repeat walk_at "y"
    refine ⟨z, _, _, rfl, Yz14.obj, rfl, I14, z, a', J, _, row, _, _, rfl, g14.sub, Yz14, fun vz2 I15 H15 g15 hvz2 => ?_⟩
    rw [seeds_dI] at hvz2
    refine we_listRg B (by walk_at "mem") (by walk_at "mem") T.list T.range ?_
    repeat walk_at "y"
    refine co_len B g15.sub (.inl (dp_mono (g14.ii.trans g15.ii) dR13)) ?_
    rw [List.length_map]
    refine ⟨row.length, rfl, by omega, fun l hl => ?_⟩
    have g16 := g15.new (o := .lst ((List.range row.length).map fun i : Nat => V.int (i : Int))) hl
    have hld : Dp Z.K (upd I15 l (.lst ((List.range row.length).map fun i : Nat => V.int (i : Int)))) (.ref l) (dI (upTo row.length)) := dI_of (by rw [upd_same]; unfold upTo; rw [List.map_map]; rfl)
    refine bo_neD B hr g16.sub (dp_mono (same_upd g15.sub hl) hvz2) hld (shaped_dI _) (shaped_dI _) ?_
    rw [eqv_dI]
    repeat walk_at "y"
    refine iteF ?_
    repeat walk_at "y"
    have g17 := g14.trans g16
    refine ⟨_, _, rfl, g13.trans g17, fun x hx => ?_⟩
    obtain ⟨z', a'', d'', e, Yx⟩ := hall x (by simp [hx])
    exact ⟨z', a'', d'', e, Yx.mono0 g17⟩
  · rintro σ H13 ⟨u15', I13, rfl, g13, _⟩
    repeat walk_at "y"
    exact q I13 H13 _ (G12.trans g13)
end Y

namespace Y
open PySem PySem.Spec PyProof.Rows L2
/-- membership, slots -/
local macro_rules | `(tactic| walk_at "mem") => `(tactic| (repeat (first | with_reducible exact List.mem_cons_self | with_reducible apply List.mem_cons_of_mem)))
local macro_rules | `(tactic| walk_at "at") => `(tactic| (repeat (first | with_reducible exact At2.z | with_reducible apply At2.s)))
local macro_rules | `(tactic| walk_at "up") => `(tactic| (repeat (first | with_reducible exact Up2.z | with_reducible apply Up2.s)))
local macro_rules | `(tactic| walk_at "upf") => `(tactic| (intro _; (repeat (first | with_reducible exact Up2.z | with_reducible apply Up2.s))))
local macro_rules | `(tactic| walk_at "sub") => `(tactic| (with_reducible first | assumption | exact Gr.sub (by assumption)))
/-- one step -/
local macro_rules | `(tactic| walk_at "y") => `(tactic| (with_reducible first
  | refine wss_cons ?_ | refine we_cst (by assumption) (by walk_at "mem") (by with_reducible assumption) ?_ | refine we_var (by assumption) (by walk_at "at") ?_ | refine we_int ?_ | refine we_negC ?_ | refine we_bl ?_ | refine we_non ?_ | refine we_str ?_
  | refine wa_cons ?_ | refine wa_nil ?_ | refine wk_cons ?_ | refine wk_nil ?_
  | refine we_ty (by assumption) (by walk_at "mem") (Std.int (by assumption)) b_int ?_ | refine we_ty (by assumption) (by walk_at "mem") (Std.bool (by assumption)) b_bool ?_
  | refine we_ty (by assumption) (by walk_at "mem") (Std.list (by assumption)) b_list ?_ | refine we_ty (by assumption) (by walk_at "mem") (Std.tuple (by assumption)) b_tuple ?_ | refine we_ty (by assumption) (by walk_at "mem") (Std.str (by assumption)) b_str ?_
  | refine we_bin ?_ | refine bo_add ?_ | refine bo_sub ?_ | refine bo_lt ?_ | refine bo_le ?_ | refine bo_gt ?_ | refine bo_ge ?_ | refine bo_eqI ?_ | refine bo_neI ?_ | refine bo_eqS ?_ | refine bo_neS ?_ | refine bo_eqB ?_ | refine bo_neB ?_ | refine bo_isN ?_ | refine bo_notN ?_
  | refine we_cmp ?_ | refine we_and ?_ | refine we_or ?_ | refine we_one ?_ | refine we_not ?_ | refine we_if ?_ | refine we_chain ?_
  | refine wt_cmp ?_ | refine wt_not ?_ | refine wt_bool ?_ | refine ww_and ?_ | refine ww_or ?_ | refine ww_and1 ?_ | refine ww_or1 ?_ | refine wt_chain ?_
  | refine we_callB (by assumption) (by walk_at "mem") (Std.isinstance (by assumption)) b_isinstance ?_ | refine we_callB (by assumption) (by walk_at "mem") (Std.len (by assumption)) b_len ?_
  | refine we_callTy (by assumption) (by walk_at "mem") (Std.int (by assumption)) b_int ?_
  | refine isi_int (by assumption) (by walk_at "sub") (by assumption) ?_ | refine isi_bool (by assumption) (by walk_at "sub") (by assumption) ?_ | refine isi_list (by assumption) (by walk_at "sub") (by assumption) ?_ | refine isi_tup (by assumption) (by walk_at "sub") (by assumption) ?_ | refine isi_str (by assumption) (by walk_at "sub") (by assumption) ?_
  | refine co_int ?_ | refine co_intB ?_
  | refine we_tup ?_ | refine we_lst ?_ | refine we_ix ?_ | refine we_slice ?_ | refine wo_none ?_ | refine wo_some ?_
  | refine ws_set (by assumption) ?_ | refine ws_ret ?_ | refine ws_if ?_ | refine ws_expr ?_ | refine ws_retN ?_ | refine ws_pass ?_ | refine ws_break ?_ | refine ws_cont ?_ | refine wss_nil ?_
  | refine iteT ?_ | refine iteF ?_ | refine exb ?_ | refine exi ?_ | refine exv ?_ | refine exu (by walk_at "up") ?_ | refine wt_call ?_
  | refine we_callK (by assumption) (by with_reducible assumption) (room_le (by assumption) (by decide)) passZ (by walk_at "mem") ?_
  | refine we_call (by assumption) (by with_reducible assumption) (room_le (by assumption) (by decide)) passZ (by walk_at "mem") ?_))

def spLaw (Z : Wd) : Sp := fun vs H Q _ => ∃ I v ns, vs = [v] ∧ Same I H ∧ Dp Z.K I v (dI ns) ∧ ns.length ≤ 63 ∧ ∀ H', Q (.bl true) H'
theorem cut_ints (ns : List Int) (lo hi : Option Int) : ∃ ms : List Int, cutV (ns.map V.int) lo hi = ms.map V.int ∧ ms.length ≤ ns.length := by
  refine ⟨(ns.drop (HT.sIx (ns.map V.int).length 0 lo)).take (HT.sIx (ns.map V.int).length (ns.map V.int).length hi - HT.sIx (ns.map V.int).length 0 lo), by unfold cutV; rw [List.map_take, List.map_drop], ?_⟩
  rw [List.length_take, List.length_drop]; omega
theorem fn_law {Z : Wd} {f C Ct : Addr} {fd : FuncData} (T : Std Z) (L : LawFns Z C Ct) (F : Fun Z.K "law" "law" s_law f fd) : FnG Z 11 f fd ["_law_script"] (spLaw Z) := by
  refine fnG_of F sc_law ok_law (fun vs H Q E h => ?_) (fun X H vs Q E B R h => ?_)
  · obtain ⟨I, v, ns, rfl, _⟩ := h; rfl
  · obtain ⟨I, v, ns, rfl, s, hv, hl, q⟩ := h
    have hr := R.room
    refine wst (σ' := some v :: z_law) rfl (wss_cons ?_)
    refine ws_for B R.po (wi_list ?_)
    repeat walk_at "y"
    refine we_call B L.cell (room_le hr (by decide)) passZ (by walk_at "mem") ?_
    repeat walk_at "y"
    refine ⟨I, v, ns, 0, rfl, s, hv, fun z => ?_⟩
    refine wa_nil ⟨le_line (by decide : (1 : Nat) ≤ 16777216), fun p1 hp1 => ?_⟩
    have g1 := (Gr.refl s (S := [])).tmp (o := .lst [.int z]) hp1
    repeat walk_at "y"
    refine so_L B g1.sub hv fun p2 xs hp2 hxs => ?_
    have hxs' := hxs.ints
    subst hxs'
    obtain ⟨ms, em, lm⟩ := cut_ints ns (some 1) (some 6)
    rw [em]
    have g2 := g1.tmp (o := .lst (ms.map V.int)) hp2
    refine bo_cat (ukeepN upd_same hp2) upd_same (by rw [List.length_map]; simp only [List.length_cons, List.length_nil]; omega) fun p3 hp3 => ?_
    have g3 := g2.new (o := .lst ([.int z] ++ ms.map V.int)) hp3
    have hp3I : upd I p3 (.lst ([.int z] ++ ms.map V.int)) p3 = some (.lst ([.int z] ++ ms.map V.int)) := upd_same
    generalize upd I p3 (.lst ([.int z] ++ ms.map V.int)) = I3 at g3 hp3I
    generalize upd (upd (upd H p1 (.lst [.int z])) p2 (.lst (ms.map V.int))) p3 (.lst ([.int z] ++ ms.map V.int)) = H3 at g3 ⊢
    refine ⟨p3, rfl, ⟨_, .inl (.inl (g3.sub _ _ hp3I))⟩, fi_list (xs := [.int z] ++ ms.map V.int) (fun r σ H' => ∃ u1 u2 u3 u4 u5 u6 u7 u8 u9 u10 u11 u12 u13 u14 u15 u16 I' rest, σ = [some v, u1, u2, u3, u4, u5, u6, u7, u8, u9, u10, u11, u12, u13, u14, u15, u16] ∧ Gr [] I3 H3 I' H' ∧ r = rest.map V.int)
      ⟨_, _, _, _, _, _, _, _, _, _, _, _, _, _, _, _, I3, z :: ms, rfl, .refl g3.sub, rfl⟩ (fun r σ H' ⟨_, _, _, _, _, _, _, _, _, _, _, _, _, _, _, _, I', _, _, g, _⟩ => .inl (.inl (g.sub _ _ (g.ii _ _ hp3I)))) ?_ ?_⟩
    · rintro x r σ H4 ⟨u1, u2, u3, u4, u5, u6, u7, u8, u9, u10, u11, u12, u13, u14, u15, u16, I4, rest, rfl, g4, er⟩
      cases rest with
      | nil => cases er
      | cons c rest =>
        cases er
        refine wg_name B (by walk_at "up") ?_
        refine law_A B R T L g4.sub fun w t y a vJ vP vR J ws row n I5 H5 h5 => ?_
        refine law_B B R T L h5 fun I6 H6 fs ds v9 v10 v11 h6 hds => ?_
        refine law_C B R T L h6 fun I7 H7 o b vO od t1 es v14 h7 ho hes hO hok e1 e2 => ?_
        refine law_D B R T L h7 ho hds hes hO hok e1 e2 fun I8 H8 v15 g8 => ?_
        exact ⟨_, _, _, _, _, _, _, _, _, _, _, _, _, _, _, _, I8, rest, rfl, g4.trans g8, rfl⟩
    · rintro σ H4 ⟨u1, u2, u3, u4, u5, u6, u7, u8, u9, u10, u11, u12, u13, u14, u15, u16, I4, rest, rfl, g4, er⟩
      repeat walk_at "y"
      exact q H4
end Y

namespace Y
open PySem PySem.Spec PyProof.Rows L2
def spLawK (K : PySem.W.Frag) : Sp := fun vs H Q _ => ∃ I v ns, vs = [v] ∧ Same I H ∧ Dp K I v (dI ns) ∧ ns.length ≤ 63 ∧ ∀ H', Q (.bl true) H'
theorem spLaw_start {K : PySem.W.Frag} {H : Hp} {a : Addr} {ns : List Int} (hl : ns.length ≤ 63) (hS : SqL K H a (ns.map V.int)) : spLawK K [.ref a] H (fun v _ => v = .bl true) noX := ⟨H, .ref a, ns, rfl, Same.refl _, .lst hS (dps_ints ns), hl, fun _ => rfl⟩
set_option maxHeartbeats 0 in
theorem all_mk {l : PySem.W.OpenLaw} {w : World} {K : PySem.W.Frag} {h : Heap} {mg : Str → Option Value} {fa : Addr} (X : K.In h) (G : h.Ns mainGlobals mg) (hfa : mg "law" = some (.ref fa))
    {Ct : Addr}
    {C : Addr}
    {f_is_integer : Addr} {od_is_integer an_is_integer : Option Addr} {sl_is_integer : Array (Option Value)} {oc_is_integer kV_is_integer dc_is_integer pm_is_integer cd_is_integer ct_is_integer : Value}
    {f_is_between : Addr} {od_is_between an_is_between : Option Addr} {sl_is_between : Array (Option Value)} {oc_is_between kV_is_between dc_is_between pm_is_between cd_is_between ct_is_between : Value}
    {f_check_grid : Addr} {od_check_grid an_check_grid : Option Addr} {sl_check_grid : Array (Option Value)} {oc_check_grid kV_check_grid dc_check_grid pm_check_grid cd_check_grid ct_check_grid : Value}
    {f_check_joins : Addr} {od_check_joins an_check_joins : Option Addr} {sl_check_joins : Array (Option Value)} {oc_check_joins kV_check_joins dc_check_joins pm_check_joins cd_check_joins ct_check_joins : Value}
    {f_Table_init : Addr} {od_Table_init an_Table_init : Option Addr} {sl_Table_init : Array (Option Value)} {oc_Table_init kV_Table_init dc_Table_init pm_Table_init cd_Table_init ct_Table_init : Value}
    {f_Table_count : Addr} {od_Table_count an_Table_count : Option Addr} {sl_Table_count : Array (Option Value)} {oc_Table_count kV_Table_count dc_Table_count pm_Table_count cd_Table_count ct_Table_count : Value}
    {f_Table_check_kind : Addr} {od_Table_check_kind an_Table_check_kind : Option Addr} {sl_Table_check_kind : Array (Option Value)} {oc_Table_check_kind kV_Table_check_kind dc_Table_check_kind pm_Table_check_kind cd_Table_check_kind ct_Table_check_kind : Value}
    {f_Table_join : Addr} {od_Table_join an_Table_join : Option Addr} {sl_Table_join : Array (Option Value)} {oc_Table_join kV_Table_join dc_Table_join pm_Table_join cd_Table_join ct_Table_join : Value}
    {f_Table_toll : Addr} {od_Table_toll an_Table_toll : Option Addr} {sl_Table_toll : Array (Option Value)} {oc_Table_toll kV_Table_toll dc_Table_toll pm_Table_toll cd_Table_toll ct_Table_toll : Value}
    {f_tolls_of_worths : Addr} {od_tolls_of_worths an_tolls_of_worths : Option Addr} {sl_tolls_of_worths : Array (Option Value)} {oc_tolls_of_worths kV_tolls_of_worths dc_tolls_of_worths pm_tolls_of_worths cd_tolls_of_worths ct_tolls_of_worths : Value}
    {f_check_row : Addr} {od_check_row an_check_row : Option Addr} {sl_check_row : Array (Option Value)} {oc_check_row kV_check_row dc_check_row pm_check_row cd_check_row ct_check_row : Value}
    {f_check_order : Addr} {od_check_order an_check_order : Option Addr} {sl_check_order : Array (Option Value)} {oc_check_order kV_check_order dc_check_order pm_check_order cd_check_order ct_check_order : Value}
    {f_steps : Addr} {od_steps an_steps : Option Addr} {sl_steps : Array (Option Value)} {oc_steps kV_steps dc_steps pm_steps cd_steps ct_steps : Value}
    {f_result : Addr} {od_result an_result : Option Addr} {sl_result : Array (Option Value)} {oc_result kV_result dc_result pm_result cd_result ct_result : Value}
    {f_leaves_of : Addr} {od_leaves_of an_leaves_of : Option Addr} {sl_leaves_of : Array (Option Value)} {oc_leaves_of kV_leaves_of dc_leaves_of pm_leaves_of cd_leaves_of ct_leaves_of : Value}
    {f_is_tree : Addr} {od_is_tree an_is_tree : Option Addr} {sl_is_tree : Array (Option Value)} {oc_is_tree kV_is_tree dc_is_tree pm_is_tree cd_is_tree ct_is_tree : Value}
    {f_check_tree : Addr} {od_check_tree an_check_tree : Option Addr} {sl_check_tree : Array (Option Value)} {oc_check_tree kV_check_tree dc_check_tree pm_check_tree cd_check_tree ct_check_tree : Value}
    {f_order_from : Addr} {od_order_from an_order_from : Option Addr} {sl_order_from : Array (Option Value)} {oc_order_from kV_order_from dc_order_from pm_order_from cd_order_from ct_order_from : Value}
    {f_order_of : Addr} {od_order_of an_order_of : Option Addr} {sl_order_of : Array (Option Value)} {oc_order_of kV_order_of dc_order_of pm_order_of cd_order_of ct_order_of : Value}
    {f_Yard_init : Addr} {od_Yard_init an_Yard_init : Option Addr} {sl_Yard_init : Array (Option Value)} {oc_Yard_init kV_Yard_init dc_Yard_init pm_Yard_init cd_Yard_init ct_Yard_init : Value}
    {f_Yard_row : Addr} {od_Yard_row an_Yard_row : Option Addr} {sl_Yard_row : Array (Option Value)} {oc_Yard_row kV_Yard_row dc_Yard_row pm_Yard_row cd_Yard_row ct_Yard_row : Value}
    {f_Yard_shapes : Addr} {od_Yard_shapes an_Yard_shapes : Option Addr} {sl_Yard_shapes : Array (Option Value)} {oc_Yard_shapes kV_Yard_shapes dc_Yard_shapes pm_Yard_shapes cd_Yard_shapes ct_Yard_shapes : Value}
    {f_Yard_paid : Addr} {od_Yard_paid an_Yard_paid : Option Addr} {sl_Yard_paid : Array (Option Value)} {oc_Yard_paid kV_Yard_paid dc_Yard_paid pm_Yard_paid cd_Yard_paid ct_Yard_paid : Value}
    {f_Yard_history : Addr} {od_Yard_history an_Yard_history : Option Addr} {sl_Yard_history : Array (Option Value)} {oc_Yard_history kV_Yard_history dc_Yard_history pm_Yard_history cd_Yard_history ct_Yard_history : Value}
    {f_Yard_join : Addr} {od_Yard_join an_Yard_join : Option Addr} {sl_Yard_join : Array (Option Value)} {oc_Yard_join kV_Yard_join dc_Yard_join pm_Yard_join cd_Yard_join ct_Yard_join : Value}
    {f_Yard_part : Addr} {od_Yard_part an_Yard_part : Option Addr} {sl_Yard_part : Array (Option Value)} {oc_Yard_part kV_Yard_part dc_Yard_part pm_Yard_part cd_Yard_part ct_Yard_part : Value}
    {f_cell_at : Addr} {od_cell_at an_cell_at : Option Addr} {sl_cell_at : Array (Option Value)} {oc_cell_at kV_cell_at dc_cell_at pm_cell_at cd_cell_at ct_cell_at : Value}
    {f_well : Addr} {od_well an_well : Option Addr} {sl_well : Array (Option Value)} {oc_well kV_well dc_well pm_well cd_well ct_well : Value}
    {f_draw : Addr} {od_draw an_draw : Option Addr} {sl_draw : Array (Option Value)} {oc_draw kV_draw dc_draw pm_draw cd_draw ct_draw : Value}
    {f_one : Addr} {od_one an_one : Option Addr} {sl_one : Array (Option Value)} {oc_one kV_one dc_one pm_one cd_one ct_one : Value}
    {f_joins : Addr} {od_joins an_joins : Option Addr} {sl_joins : Array (Option Value)} {oc_joins kV_joins dc_joins pm_joins cd_joins ct_joins : Value}
    {f_row : Addr} {od_row an_row : Option Addr} {sl_row : Array (Option Value)} {oc_row kV_row dc_row pm_row cd_row ct_row : Value}
    {f_order : Addr} {od_order an_order : Option Addr} {sl_order : Array (Option Value)} {oc_order kV_order dc_order pm_order cd_order ct_order : Value}
    {f_backwards : Addr} {od_backwards an_backwards : Option Addr} {sl_backwards : Array (Option Value)} {oc_backwards kV_backwards dc_backwards pm_backwards cd_backwards ct_backwards : Value}
    {f_possible : Addr} {od_possible an_possible : Option Addr} {sl_possible : Array (Option Value)} {oc_possible kV_possible dc_possible pm_possible cd_possible ct_possible : Value}
    {f_sum : Addr} {od_sum an_sum : Option Addr} {sl_sum : Array (Option Value)} {oc_sum kV_sum dc_sum pm_sum cd_sum ct_sum : Value}
    {f_law : Addr} {od_law an_law : Option Addr} {sl_law : Array (Option Value)} {oc_law kV_law dc_law pm_law cd_law ct_law : Value}
    {tk_MOST_KINDS : Tok}
    {tk_TOLL_BOUND : Tok}
    {tk_MOST_ITEMS : Tok}
    (qCt : PySem.W.nsIn K mainGlobals "Table" = some (some (.ref Ct)))
    (qC : PySem.W.nsIn K mainGlobals "Yard" = some (some (.ref C)))
    (a_is_integer : PySem.W.nsIn K mainGlobals "is_integer" = some (some (.ref f_is_integer)))
    (l_is_integer : K.lookup f_is_integer = some ⟨oc_is_integer, od_is_integer, .func (PySem.W.fnOf "is_integer" "is_integer" (defArgs s_is_integer) (defBody s_is_integer) (defScope s_is_integer) .none kV_is_integer dc_is_integer pm_is_integer an_is_integer cd_is_integer ct_is_integer), sl_is_integer⟩)
    (c_is_integer : PySem.W.codeIn K cd_is_integer "is_integer" = true)
    (k_is_integer : PySem.W.keepIn K (.ref f_is_integer) = true)
    (a_is_between : PySem.W.nsIn K mainGlobals "is_between" = some (some (.ref f_is_between)))
    (l_is_between : K.lookup f_is_between = some ⟨oc_is_between, od_is_between, .func (PySem.W.fnOf "is_between" "is_between" (defArgs s_is_between) (defBody s_is_between) (defScope s_is_between) .none kV_is_between dc_is_between pm_is_between an_is_between cd_is_between ct_is_between), sl_is_between⟩)
    (c_is_between : PySem.W.codeIn K cd_is_between "is_between" = true)
    (k_is_between : PySem.W.keepIn K (.ref f_is_between) = true)
    (a_check_grid : PySem.W.nsIn K mainGlobals "check_grid" = some (some (.ref f_check_grid)))
    (l_check_grid : K.lookup f_check_grid = some ⟨oc_check_grid, od_check_grid, .func (PySem.W.fnOf "check_grid" "check_grid" (defArgs s_check_grid) (defBody s_check_grid) (defScope s_check_grid) .none kV_check_grid dc_check_grid pm_check_grid an_check_grid cd_check_grid ct_check_grid), sl_check_grid⟩)
    (c_check_grid : PySem.W.codeIn K cd_check_grid "check_grid" = true)
    (k_check_grid : PySem.W.keepIn K (.ref f_check_grid) = true)
    (a_check_joins : PySem.W.nsIn K mainGlobals "check_joins" = some (some (.ref f_check_joins)))
    (l_check_joins : K.lookup f_check_joins = some ⟨oc_check_joins, od_check_joins, .func (PySem.W.fnOf "check_joins" "check_joins" (defArgs s_check_joins) (defBody s_check_joins) (defScope s_check_joins) .none kV_check_joins dc_check_joins pm_check_joins an_check_joins cd_check_joins ct_check_joins), sl_check_joins⟩)
    (c_check_joins : PySem.W.codeIn K cd_check_joins "check_joins" = true)
    (k_check_joins : PySem.W.keepIn K (.ref f_check_joins) = true)
    (a_Table_init : PySem.W.findIn K (.ref Ct) "__init__" = some (some (.ref f_Table_init)))
    (i_Table_init : PySem.W.isFn K (.ref f_Table_init) = true)
    (l_Table_init : K.lookup f_Table_init = some ⟨oc_Table_init, od_Table_init, .func (PySem.W.fnOf "__init__" "Table.__init__" (defArgs s_Table_init) (defBody s_Table_init) (defScope s_Table_init) .none kV_Table_init dc_Table_init pm_Table_init an_Table_init cd_Table_init ct_Table_init), sl_Table_init⟩)
    (c_Table_init : PySem.W.codeIn K cd_Table_init "Table.__init__" = true)
    (k_Table_init : PySem.W.keepIn K (.ref f_Table_init) = true)
    (a_Table_count : PySem.W.findIn K (.ref Ct) "count" = some (some (.ref f_Table_count)))
    (i_Table_count : PySem.W.isFn K (.ref f_Table_count) = true)
    (l_Table_count : K.lookup f_Table_count = some ⟨oc_Table_count, od_Table_count, .func (PySem.W.fnOf "count" "Table.count" (defArgs s_Table_count) (defBody s_Table_count) (defScope s_Table_count) .none kV_Table_count dc_Table_count pm_Table_count an_Table_count cd_Table_count ct_Table_count), sl_Table_count⟩)
    (c_Table_count : PySem.W.codeIn K cd_Table_count "Table.count" = true)
    (k_Table_count : PySem.W.keepIn K (.ref f_Table_count) = true)
    (a_Table_check_kind : PySem.W.findIn K (.ref Ct) "check_kind" = some (some (.ref f_Table_check_kind)))
    (i_Table_check_kind : PySem.W.isFn K (.ref f_Table_check_kind) = true)
    (l_Table_check_kind : K.lookup f_Table_check_kind = some ⟨oc_Table_check_kind, od_Table_check_kind, .func (PySem.W.fnOf "check_kind" "Table.check_kind" (defArgs s_Table_check_kind) (defBody s_Table_check_kind) (defScope s_Table_check_kind) .none kV_Table_check_kind dc_Table_check_kind pm_Table_check_kind an_Table_check_kind cd_Table_check_kind ct_Table_check_kind), sl_Table_check_kind⟩)
    (c_Table_check_kind : PySem.W.codeIn K cd_Table_check_kind "Table.check_kind" = true)
    (k_Table_check_kind : PySem.W.keepIn K (.ref f_Table_check_kind) = true)
    (a_Table_join : PySem.W.findIn K (.ref Ct) "join" = some (some (.ref f_Table_join)))
    (i_Table_join : PySem.W.isFn K (.ref f_Table_join) = true)
    (l_Table_join : K.lookup f_Table_join = some ⟨oc_Table_join, od_Table_join, .func (PySem.W.fnOf "join" "Table.join" (defArgs s_Table_join) (defBody s_Table_join) (defScope s_Table_join) .none kV_Table_join dc_Table_join pm_Table_join an_Table_join cd_Table_join ct_Table_join), sl_Table_join⟩)
    (c_Table_join : PySem.W.codeIn K cd_Table_join "Table.join" = true)
    (k_Table_join : PySem.W.keepIn K (.ref f_Table_join) = true)
    (a_Table_toll : PySem.W.findIn K (.ref Ct) "toll" = some (some (.ref f_Table_toll)))
    (i_Table_toll : PySem.W.isFn K (.ref f_Table_toll) = true)
    (l_Table_toll : K.lookup f_Table_toll = some ⟨oc_Table_toll, od_Table_toll, .func (PySem.W.fnOf "toll" "Table.toll" (defArgs s_Table_toll) (defBody s_Table_toll) (defScope s_Table_toll) .none kV_Table_toll dc_Table_toll pm_Table_toll an_Table_toll cd_Table_toll ct_Table_toll), sl_Table_toll⟩)
    (c_Table_toll : PySem.W.codeIn K cd_Table_toll "Table.toll" = true)
    (k_Table_toll : PySem.W.keepIn K (.ref f_Table_toll) = true)
    (a_tolls_of_worths : PySem.W.nsIn K mainGlobals "tolls_of_worths" = some (some (.ref f_tolls_of_worths)))
    (l_tolls_of_worths : K.lookup f_tolls_of_worths = some ⟨oc_tolls_of_worths, od_tolls_of_worths, .func (PySem.W.fnOf "tolls_of_worths" "tolls_of_worths" (defArgs s_tolls_of_worths) (defBody s_tolls_of_worths) (defScope s_tolls_of_worths) .none kV_tolls_of_worths dc_tolls_of_worths pm_tolls_of_worths an_tolls_of_worths cd_tolls_of_worths ct_tolls_of_worths), sl_tolls_of_worths⟩)
    (c_tolls_of_worths : PySem.W.codeIn K cd_tolls_of_worths "tolls_of_worths" = true)
    (k_tolls_of_worths : PySem.W.keepIn K (.ref f_tolls_of_worths) = true)
    (a_check_row : PySem.W.nsIn K mainGlobals "check_row" = some (some (.ref f_check_row)))
    (l_check_row : K.lookup f_check_row = some ⟨oc_check_row, od_check_row, .func (PySem.W.fnOf "check_row" "check_row" (defArgs s_check_row) (defBody s_check_row) (defScope s_check_row) .none kV_check_row dc_check_row pm_check_row an_check_row cd_check_row ct_check_row), sl_check_row⟩)
    (c_check_row : PySem.W.codeIn K cd_check_row "check_row" = true)
    (k_check_row : PySem.W.keepIn K (.ref f_check_row) = true)
    (a_check_order : PySem.W.nsIn K mainGlobals "check_order" = some (some (.ref f_check_order)))
    (l_check_order : K.lookup f_check_order = some ⟨oc_check_order, od_check_order, .func (PySem.W.fnOf "check_order" "check_order" (defArgs s_check_order) (defBody s_check_order) (defScope s_check_order) .none kV_check_order dc_check_order pm_check_order an_check_order cd_check_order ct_check_order), sl_check_order⟩)
    (c_check_order : PySem.W.codeIn K cd_check_order "check_order" = true)
    (k_check_order : PySem.W.keepIn K (.ref f_check_order) = true)
    (a_steps : PySem.W.nsIn K mainGlobals "steps" = some (some (.ref f_steps)))
    (l_steps : K.lookup f_steps = some ⟨oc_steps, od_steps, .func (PySem.W.fnOf "steps" "steps" (defArgs s_steps) (defBody s_steps) (defScope s_steps) .none kV_steps dc_steps pm_steps an_steps cd_steps ct_steps), sl_steps⟩)
    (c_steps : PySem.W.codeIn K cd_steps "steps" = true)
    (k_steps : PySem.W.keepIn K (.ref f_steps) = true)
    (a_result : PySem.W.nsIn K mainGlobals "result" = some (some (.ref f_result)))
    (l_result : K.lookup f_result = some ⟨oc_result, od_result, .func (PySem.W.fnOf "result" "result" (defArgs s_result) (defBody s_result) (defScope s_result) .none kV_result dc_result pm_result an_result cd_result ct_result), sl_result⟩)
    (c_result : PySem.W.codeIn K cd_result "result" = true)
    (k_result : PySem.W.keepIn K (.ref f_result) = true)
    (a_leaves_of : PySem.W.nsIn K mainGlobals "leaves_of" = some (some (.ref f_leaves_of)))
    (l_leaves_of : K.lookup f_leaves_of = some ⟨oc_leaves_of, od_leaves_of, .func (PySem.W.fnOf "leaves_of" "leaves_of" (defArgs s_leaves_of) (defBody s_leaves_of) (defScope s_leaves_of) .none kV_leaves_of dc_leaves_of pm_leaves_of an_leaves_of cd_leaves_of ct_leaves_of), sl_leaves_of⟩)
    (c_leaves_of : PySem.W.codeIn K cd_leaves_of "leaves_of" = true)
    (k_leaves_of : PySem.W.keepIn K (.ref f_leaves_of) = true)
    (a_is_tree : PySem.W.nsIn K mainGlobals "is_tree" = some (some (.ref f_is_tree)))
    (l_is_tree : K.lookup f_is_tree = some ⟨oc_is_tree, od_is_tree, .func (PySem.W.fnOf "is_tree" "is_tree" (defArgs s_is_tree) (defBody s_is_tree) (defScope s_is_tree) .none kV_is_tree dc_is_tree pm_is_tree an_is_tree cd_is_tree ct_is_tree), sl_is_tree⟩)
    (c_is_tree : PySem.W.codeIn K cd_is_tree "is_tree" = true)
    (k_is_tree : PySem.W.keepIn K (.ref f_is_tree) = true)
    (a_check_tree : PySem.W.nsIn K mainGlobals "check_tree" = some (some (.ref f_check_tree)))
    (l_check_tree : K.lookup f_check_tree = some ⟨oc_check_tree, od_check_tree, .func (PySem.W.fnOf "check_tree" "check_tree" (defArgs s_check_tree) (defBody s_check_tree) (defScope s_check_tree) .none kV_check_tree dc_check_tree pm_check_tree an_check_tree cd_check_tree ct_check_tree), sl_check_tree⟩)
    (c_check_tree : PySem.W.codeIn K cd_check_tree "check_tree" = true)
    (k_check_tree : PySem.W.keepIn K (.ref f_check_tree) = true)
    (a_order_from : PySem.W.nsIn K mainGlobals "order_from" = some (some (.ref f_order_from)))
    (l_order_from : K.lookup f_order_from = some ⟨oc_order_from, od_order_from, .func (PySem.W.fnOf "order_from" "order_from" (defArgs s_order_from) (defBody s_order_from) (defScope s_order_from) .none kV_order_from dc_order_from pm_order_from an_order_from cd_order_from ct_order_from), sl_order_from⟩)
    (c_order_from : PySem.W.codeIn K cd_order_from "order_from" = true)
    (k_order_from : PySem.W.keepIn K (.ref f_order_from) = true)
    (a_order_of : PySem.W.nsIn K mainGlobals "order_of" = some (some (.ref f_order_of)))
    (l_order_of : K.lookup f_order_of = some ⟨oc_order_of, od_order_of, .func (PySem.W.fnOf "order_of" "order_of" (defArgs s_order_of) (defBody s_order_of) (defScope s_order_of) .none kV_order_of dc_order_of pm_order_of an_order_of cd_order_of ct_order_of), sl_order_of⟩)
    (c_order_of : PySem.W.codeIn K cd_order_of "order_of" = true)
    (k_order_of : PySem.W.keepIn K (.ref f_order_of) = true)
    (a_Yard_init : PySem.W.findIn K (.ref C) "__init__" = some (some (.ref f_Yard_init)))
    (i_Yard_init : PySem.W.isFn K (.ref f_Yard_init) = true)
    (l_Yard_init : K.lookup f_Yard_init = some ⟨oc_Yard_init, od_Yard_init, .func (PySem.W.fnOf "__init__" "Yard.__init__" (defArgs s_Yard_init) (defBody s_Yard_init) (defScope s_Yard_init) .none kV_Yard_init dc_Yard_init pm_Yard_init an_Yard_init cd_Yard_init ct_Yard_init), sl_Yard_init⟩)
    (c_Yard_init : PySem.W.codeIn K cd_Yard_init "Yard.__init__" = true)
    (k_Yard_init : PySem.W.keepIn K (.ref f_Yard_init) = true)
    (a_Yard_row : PySem.W.findIn K (.ref C) "row" = some (some (.ref f_Yard_row)))
    (i_Yard_row : PySem.W.isFn K (.ref f_Yard_row) = true)
    (l_Yard_row : K.lookup f_Yard_row = some ⟨oc_Yard_row, od_Yard_row, .func (PySem.W.fnOf "row" "Yard.row" (defArgs s_Yard_row) (defBody s_Yard_row) (defScope s_Yard_row) .none kV_Yard_row dc_Yard_row pm_Yard_row an_Yard_row cd_Yard_row ct_Yard_row), sl_Yard_row⟩)
    (c_Yard_row : PySem.W.codeIn K cd_Yard_row "Yard.row" = true)
    (k_Yard_row : PySem.W.keepIn K (.ref f_Yard_row) = true)
    (a_Yard_shapes : PySem.W.findIn K (.ref C) "shapes" = some (some (.ref f_Yard_shapes)))
    (i_Yard_shapes : PySem.W.isFn K (.ref f_Yard_shapes) = true)
    (l_Yard_shapes : K.lookup f_Yard_shapes = some ⟨oc_Yard_shapes, od_Yard_shapes, .func (PySem.W.fnOf "shapes" "Yard.shapes" (defArgs s_Yard_shapes) (defBody s_Yard_shapes) (defScope s_Yard_shapes) .none kV_Yard_shapes dc_Yard_shapes pm_Yard_shapes an_Yard_shapes cd_Yard_shapes ct_Yard_shapes), sl_Yard_shapes⟩)
    (c_Yard_shapes : PySem.W.codeIn K cd_Yard_shapes "Yard.shapes" = true)
    (k_Yard_shapes : PySem.W.keepIn K (.ref f_Yard_shapes) = true)
    (a_Yard_paid : PySem.W.findIn K (.ref C) "paid" = some (some (.ref f_Yard_paid)))
    (i_Yard_paid : PySem.W.isFn K (.ref f_Yard_paid) = true)
    (l_Yard_paid : K.lookup f_Yard_paid = some ⟨oc_Yard_paid, od_Yard_paid, .func (PySem.W.fnOf "paid" "Yard.paid" (defArgs s_Yard_paid) (defBody s_Yard_paid) (defScope s_Yard_paid) .none kV_Yard_paid dc_Yard_paid pm_Yard_paid an_Yard_paid cd_Yard_paid ct_Yard_paid), sl_Yard_paid⟩)
    (c_Yard_paid : PySem.W.codeIn K cd_Yard_paid "Yard.paid" = true)
    (k_Yard_paid : PySem.W.keepIn K (.ref f_Yard_paid) = true)
    (a_Yard_history : PySem.W.findIn K (.ref C) "history" = some (some (.ref f_Yard_history)))
    (i_Yard_history : PySem.W.isFn K (.ref f_Yard_history) = true)
    (l_Yard_history : K.lookup f_Yard_history = some ⟨oc_Yard_history, od_Yard_history, .func (PySem.W.fnOf "history" "Yard.history" (defArgs s_Yard_history) (defBody s_Yard_history) (defScope s_Yard_history) .none kV_Yard_history dc_Yard_history pm_Yard_history an_Yard_history cd_Yard_history ct_Yard_history), sl_Yard_history⟩)
    (c_Yard_history : PySem.W.codeIn K cd_Yard_history "Yard.history" = true)
    (k_Yard_history : PySem.W.keepIn K (.ref f_Yard_history) = true)
    (a_Yard_join : PySem.W.findIn K (.ref C) "join" = some (some (.ref f_Yard_join)))
    (i_Yard_join : PySem.W.isFn K (.ref f_Yard_join) = true)
    (l_Yard_join : K.lookup f_Yard_join = some ⟨oc_Yard_join, od_Yard_join, .func (PySem.W.fnOf "join" "Yard.join" (defArgs s_Yard_join) (defBody s_Yard_join) (defScope s_Yard_join) .none kV_Yard_join dc_Yard_join pm_Yard_join an_Yard_join cd_Yard_join ct_Yard_join), sl_Yard_join⟩)
    (c_Yard_join : PySem.W.codeIn K cd_Yard_join "Yard.join" = true)
    (k_Yard_join : PySem.W.keepIn K (.ref f_Yard_join) = true)
    (a_Yard_part : PySem.W.findIn K (.ref C) "part" = some (some (.ref f_Yard_part)))
    (i_Yard_part : PySem.W.isFn K (.ref f_Yard_part) = true)
    (l_Yard_part : K.lookup f_Yard_part = some ⟨oc_Yard_part, od_Yard_part, .func (PySem.W.fnOf "part" "Yard.part" (defArgs s_Yard_part) (defBody s_Yard_part) (defScope s_Yard_part) .none kV_Yard_part dc_Yard_part pm_Yard_part an_Yard_part cd_Yard_part ct_Yard_part), sl_Yard_part⟩)
    (c_Yard_part : PySem.W.codeIn K cd_Yard_part "Yard.part" = true)
    (k_Yard_part : PySem.W.keepIn K (.ref f_Yard_part) = true)
    (a_cell_at : PySem.W.nsIn K mainGlobals "_law_cell_at" = some (some (.ref f_cell_at)))
    (l_cell_at : K.lookup f_cell_at = some ⟨oc_cell_at, od_cell_at, .func (PySem.W.fnOf "_law_cell_at" "_law_cell_at" (defArgs s_cell_at) (defBody s_cell_at) (defScope s_cell_at) .none kV_cell_at dc_cell_at pm_cell_at an_cell_at cd_cell_at ct_cell_at), sl_cell_at⟩)
    (c_cell_at : PySem.W.codeIn K cd_cell_at "_law_cell_at" = true)
    (k_cell_at : PySem.W.keepIn K (.ref f_cell_at) = true)
    (a_well : PySem.W.nsIn K mainGlobals "_law_well" = some (some (.ref f_well)))
    (l_well : K.lookup f_well = some ⟨oc_well, od_well, .func (PySem.W.fnOf "_law_well" "_law_well" (defArgs s_well) (defBody s_well) (defScope s_well) .none kV_well dc_well pm_well an_well cd_well ct_well), sl_well⟩)
    (c_well : PySem.W.codeIn K cd_well "_law_well" = true)
    (k_well : PySem.W.keepIn K (.ref f_well) = true)
    (a_draw : PySem.W.nsIn K mainGlobals "_law_draw" = some (some (.ref f_draw)))
    (l_draw : K.lookup f_draw = some ⟨oc_draw, od_draw, .func (PySem.W.fnOf "_law_draw" "_law_draw" (defArgs s_draw) (defBody s_draw) (defScope s_draw) .none kV_draw dc_draw pm_draw an_draw cd_draw ct_draw), sl_draw⟩)
    (c_draw : PySem.W.codeIn K cd_draw "_law_draw" = true)
    (k_draw : PySem.W.keepIn K (.ref f_draw) = true)
    (a_one : PySem.W.nsIn K mainGlobals "_law_one" = some (some (.ref f_one)))
    (l_one : K.lookup f_one = some ⟨oc_one, od_one, .func (PySem.W.fnOf "_law_one" "_law_one" (defArgs s_one) (defBody s_one) (defScope s_one) .none kV_one dc_one pm_one an_one cd_one ct_one), sl_one⟩)
    (c_one : PySem.W.codeIn K cd_one "_law_one" = true)
    (k_one : PySem.W.keepIn K (.ref f_one) = true)
    (a_joins : PySem.W.nsIn K mainGlobals "_law_joins" = some (some (.ref f_joins)))
    (l_joins : K.lookup f_joins = some ⟨oc_joins, od_joins, .func (PySem.W.fnOf "_law_joins" "_law_joins" (defArgs s_joins) (defBody s_joins) (defScope s_joins) .none kV_joins dc_joins pm_joins an_joins cd_joins ct_joins), sl_joins⟩)
    (c_joins : PySem.W.codeIn K cd_joins "_law_joins" = true)
    (k_joins : PySem.W.keepIn K (.ref f_joins) = true)
    (a_row : PySem.W.nsIn K mainGlobals "_law_row" = some (some (.ref f_row)))
    (l_row : K.lookup f_row = some ⟨oc_row, od_row, .func (PySem.W.fnOf "_law_row" "_law_row" (defArgs s_row) (defBody s_row) (defScope s_row) .none kV_row dc_row pm_row an_row cd_row ct_row), sl_row⟩)
    (c_row : PySem.W.codeIn K cd_row "_law_row" = true)
    (k_row : PySem.W.keepIn K (.ref f_row) = true)
    (a_order : PySem.W.nsIn K mainGlobals "_law_order" = some (some (.ref f_order)))
    (l_order : K.lookup f_order = some ⟨oc_order, od_order, .func (PySem.W.fnOf "_law_order" "_law_order" (defArgs s_order) (defBody s_order) (defScope s_order) .none kV_order dc_order pm_order an_order cd_order ct_order), sl_order⟩)
    (c_order : PySem.W.codeIn K cd_order "_law_order" = true)
    (k_order : PySem.W.keepIn K (.ref f_order) = true)
    (a_backwards : PySem.W.nsIn K mainGlobals "_law_backwards" = some (some (.ref f_backwards)))
    (l_backwards : K.lookup f_backwards = some ⟨oc_backwards, od_backwards, .func (PySem.W.fnOf "_law_backwards" "_law_backwards" (defArgs s_backwards) (defBody s_backwards) (defScope s_backwards) .none kV_backwards dc_backwards pm_backwards an_backwards cd_backwards ct_backwards), sl_backwards⟩)
    (c_backwards : PySem.W.codeIn K cd_backwards "_law_backwards" = true)
    (k_backwards : PySem.W.keepIn K (.ref f_backwards) = true)
    (a_possible : PySem.W.nsIn K mainGlobals "_law_possible" = some (some (.ref f_possible)))
    (l_possible : K.lookup f_possible = some ⟨oc_possible, od_possible, .func (PySem.W.fnOf "_law_possible" "_law_possible" (defArgs s_possible) (defBody s_possible) (defScope s_possible) .none kV_possible dc_possible pm_possible an_possible cd_possible ct_possible), sl_possible⟩)
    (c_possible : PySem.W.codeIn K cd_possible "_law_possible" = true)
    (k_possible : PySem.W.keepIn K (.ref f_possible) = true)
    (a_sum : PySem.W.nsIn K mainGlobals "_law_sum" = some (some (.ref f_sum)))
    (l_sum : K.lookup f_sum = some ⟨oc_sum, od_sum, .func (PySem.W.fnOf "_law_sum" "_law_sum" (defArgs s_sum) (defBody s_sum) (defScope s_sum) .none kV_sum dc_sum pm_sum an_sum cd_sum ct_sum), sl_sum⟩)
    (c_sum : PySem.W.codeIn K cd_sum "_law_sum" = true)
    (k_sum : PySem.W.keepIn K (.ref f_sum) = true)
    (a_law : PySem.W.nsIn K mainGlobals "law" = some (some (.ref f_law)))
    (l_law : K.lookup f_law = some ⟨oc_law, od_law, .func (PySem.W.fnOf "law" "law" (defArgs s_law) (defBody s_law) (defScope s_law) .none kV_law dc_law pm_law an_law cd_law ct_law), sl_law⟩)
    (c_law : PySem.W.codeIn K cd_law "law" = true)
    (k_law : PySem.W.keepIn K (.ref f_law) = true)
    (pgCt : PySem.W.plainGet K Ct Str.empty = true)
    (hdCt : PySem.W.hasDictIn K Ct = true)
    (poCt : PySem.W.plainOver K Ct = true)
    (saCt : PySem.W.findIn K (.ref Ct) "__setattr__" = some (some (.builtin "object.__setattr__")))
    (mkCt : PySem.W.makesIn K Ct = true)
    (kcCt : PySem.W.keepIn K (.ref Ct) = true)
    (nCt_results : PySem.W.findIn K (.ref Ct) "results" = some none)
    (nCt_prices : PySem.W.findIn K (.ref Ct) "prices" = some none)
    (pgC : PySem.W.plainGet K C Str.empty = true)
    (hdC : PySem.W.hasDictIn K C = true)
    (poC : PySem.W.plainOver K C = true)
    (saC : PySem.W.findIn K (.ref C) "__setattr__" = some (some (.builtin "object.__setattr__")))
    (mkC : PySem.W.makesIn K C = true)
    (kcC : PySem.W.keepIn K (.ref C) = true)
    (nC_table : PySem.W.findIn K (.ref C) "table" = some none)
    (nC_goods : PySem.W.findIn K (.ref C) "goods" = some none)
    (nC_forms : PySem.W.findIn K (.ref C) "forms" = some none)
    (nC_kinds : PySem.W.findIn K (.ref C) "kinds" = some none)
    (nC_total : PySem.W.findIn K (.ref C) "total" = some none)
    (nC_deeds : PySem.W.findIn K (.ref C) "deeds" = some none)
    (v_MOST_KINDS : PySem.W.nsIn K mainGlobals "MOST_KINDS" = some (some (.int 5 tk_MOST_KINDS)))
    (v_TOLL_BOUND : PySem.W.nsIn K mainGlobals "TOLL_BOUND" = some (some (.int 1000000000000 tk_TOLL_BOUND)))
    (v_MOST_ITEMS : PySem.W.nsIn K mainGlobals "MOST_ITEMS" = some (some (.int 8 tk_MOST_ITEMS)))
    (z_isinstance : PySem.W.nsIn K mainGlobals "isinstance" = some none)
    (z_int : PySem.W.nsIn K mainGlobals "int" = some none)
    (z_bool : PySem.W.nsIn K mainGlobals "bool" = some none)
    (z_str : PySem.W.nsIn K mainGlobals "str" = some none)
    (z_len : PySem.W.nsIn K mainGlobals "len" = some none)
    (z_list : PySem.W.nsIn K mainGlobals "list" = some none)
    (z_tuple : PySem.W.nsIn K mainGlobals "tuple" = some none)
    (z_dict : PySem.W.nsIn K mainGlobals "dict" = some none)
    (z_range : PySem.W.nsIn K mainGlobals "range" = some none)
    (z_enumerate : PySem.W.nsIn K mainGlobals "enumerate" = some none)
    (z_zip : PySem.W.nsIn K mainGlobals "zip" = some none)
    (z_sum : PySem.W.nsIn K mainGlobals "sum" = some none)
    (z_all : PySem.W.nsIn K mainGlobals "all" = some none)
    (z_any : PySem.W.nsIn K mainGlobals "any" = some none)
    (z_max : PySem.W.nsIn K mainGlobals "max" = some none)
    (z_min : PySem.W.nsIn K mainGlobals "min" = some none)
    (z_abs : PySem.W.nsIn K mainGlobals "abs" = some none)
    (z_repr : PySem.W.nsIn K mainGlobals "repr" = some none)
    (z_sorted : PySem.W.nsIn K mainGlobals "sorted" = some none)
    (z_set : PySem.W.nsIn K mainGlobals "set" = some none)
    (z_ValueError : PySem.W.nsIn K mainGlobals "ValueError" = some none)
    : ∃ fd : FuncData, (∀ (s : Shared) (v : Value), BindsTo s fd ⟨[v], []⟩ [("_law_script", v)]) ∧ ∀ base : Heap, K.In base → base.Ns mainGlobals mg → FnG ⟨l.prog, w, K, mg, base⟩ 11 fa fd ["_law_script"] (spLawK K) := by
  have e := hfa.symm.trans (PySem.W.mg_of X G a_law)
  cases e
  refine ⟨PySem.W.fnOf "law" "law" (defArgs s_law) (defBody s_law) (defScope s_law) .none kV_law dc_law pm_law an_law cd_law ct_law, fun s v => .of_eq rfl, fun base _ _ => ?_⟩
  have T : Std ⟨l.prog, w, K, mg, base⟩ := { isinstance := PySem.W.mg_none_of X G z_isinstance, int := PySem.W.mg_none_of X G z_int, bool := PySem.W.mg_none_of X G z_bool, str := PySem.W.mg_none_of X G z_str, len := PySem.W.mg_none_of X G z_len, list := PySem.W.mg_none_of X G z_list, tuple := PySem.W.mg_none_of X G z_tuple, dict := PySem.W.mg_none_of X G z_dict, range := PySem.W.mg_none_of X G z_range, enumerate := PySem.W.mg_none_of X G z_enumerate, zip := PySem.W.mg_none_of X G z_zip, sum := PySem.W.mg_none_of X G z_sum, all := PySem.W.mg_none_of X G z_all, any := PySem.W.mg_none_of X G z_any, max := PySem.W.mg_none_of X G z_max, min := PySem.W.mg_none_of X G z_min, abs := PySem.W.mg_none_of X G z_abs, repr := PySem.W.mg_none_of X G z_repr, sorted := PySem.W.mg_none_of X G z_sorted, set := PySem.W.mg_none_of X G z_set, valueError := PySem.W.mg_none_of X G z_ValueError }
  have c_MOST_KINDS : Cst ⟨l.prog, w, K, mg, base⟩ "MOST_KINDS" 5 := Cst.of X G v_MOST_KINDS ⟨_, rfl⟩
  have c_TOLL_BOUND : Cst ⟨l.prog, w, K, mg, base⟩ "TOLL_BOUND" 1000000000000 := Cst.of X G v_TOLL_BOUND ⟨_, rfl⟩
  have c_MOST_ITEMS : Cst ⟨l.prog, w, K, mg, base⟩ "MOST_ITEMS" 8 := Cst.of X G v_MOST_ITEMS ⟨_, rfl⟩
  have clCt : Cls K Ct := ⟨pgCt, hdCt, poCt, saCt⟩
  have KCt : TabC ⟨l.prog, w, K, mg, base⟩ Ct := ⟨clCt, nCt_results, nCt_prices⟩
  have clC : Cls K C := ⟨pgC, hdC, poC, saC⟩
  have KC : YarC ⟨l.prog, w, K, mg, base⟩ C := ⟨clC, nC_table, nC_goods, nC_forms, nC_kinds, nC_total, nC_deeds⟩
  have F_is_integer := fun_mk (st := s_is_integer) l_is_integer c_is_integer k_is_integer
  have b_is_integer := F_is_integer.binds (ps := ["value"]) fun _ _ _ _ _ _ us hl => match us, hl with | [_], _ => rfl
  have F_is_between := fun_mk (st := s_is_between) l_is_between c_is_between k_is_between
  have b_is_between : KBn K _ ["value", "low", "high"] 1 ["low", "high"] (fun us ws => us ++ ws) (fun us ws => us ++ ws) := kbn_of F_is_between (n := 1) (ks := ["low", "high"]) fun _ _ _ _ _ _ us ws h1 h2 => match us, ws, h1, h2 with | [_], [_, _], _, _ => rfl
  have F_check_grid := fun_mk (st := s_check_grid) l_check_grid c_check_grid k_check_grid
  have b_check_grid : KBn K _ ["grid", "why", "cell_why", "size", "low", "high"] 3 ["size", "low", "high"] (fun us ws => us ++ ws) (fun us ws => us ++ ws) := kbn_of F_check_grid (n := 3) (ks := ["size", "low", "high"]) fun _ _ _ _ _ _ us ws h1 h2 => match us, ws, h1, h2 with | [_, _, _], [_, _, _], _, _ => rfl
  have F_check_joins := fun_mk (st := s_check_joins) l_check_joins c_check_joins k_check_joins
  have b_check_joins := F_check_joins.binds (ps := ["joins"]) fun _ _ _ _ _ _ us hl => match us, hl with | [_], _ => rfl
  have F_Table_init := fun_mk (st := s_Table_init) l_Table_init c_Table_init k_Table_init
  have b_Table_init := F_Table_init.binds (ps := ["self", "joins", "tolls"]) fun _ _ _ _ _ _ us hl => match us, hl with | [_, _, _], _ => rfl
  have F_Table_count := fun_mk (st := s_Table_count) l_Table_count c_Table_count k_Table_count
  have b_Table_count := F_Table_count.binds (ps := ["self"]) fun _ _ _ _ _ _ us hl => match us, hl with | [_], _ => rfl
  have F_Table_check_kind := fun_mk (st := s_Table_check_kind) l_Table_check_kind c_Table_check_kind k_Table_check_kind
  have b_Table_check_kind := F_Table_check_kind.binds (ps := ["self", "kind"]) fun _ _ _ _ _ _ us hl => match us, hl with | [_, _], _ => rfl
  have F_Table_join := fun_mk (st := s_Table_join) l_Table_join c_Table_join k_Table_join
  have b_Table_join := F_Table_join.binds (ps := ["self", "left", "right"]) fun _ _ _ _ _ _ us hl => match us, hl with | [_, _, _], _ => rfl
  have F_Table_toll := fun_mk (st := s_Table_toll) l_Table_toll c_Table_toll k_Table_toll
  have b_Table_toll := F_Table_toll.binds (ps := ["self", "left", "right"]) fun _ _ _ _ _ _ us hl => match us, hl with | [_, _, _], _ => rfl
  have F_tolls_of_worths := fun_mk (st := s_tolls_of_worths) l_tolls_of_worths c_tolls_of_worths k_tolls_of_worths
  have b_tolls_of_worths := F_tolls_of_worths.binds (ps := ["joins", "worths"]) fun _ _ _ _ _ _ us hl => match us, hl with | [_, _], _ => rfl
  have F_check_row := fun_mk (st := s_check_row) l_check_row c_check_row k_check_row
  have b_check_row := F_check_row.binds (ps := ["table", "row"]) fun _ _ _ _ _ _ us hl => match us, hl with | [_, _], _ => rfl
  have F_check_order := fun_mk (st := s_check_order) l_check_order c_check_order k_check_order
  have b_check_order := F_check_order.binds (ps := ["order", "size"]) fun _ _ _ _ _ _ us hl => match us, hl with | [_, _], _ => rfl
  have F_steps := fun_mk (st := s_steps) l_steps c_steps k_steps
  have b_steps := F_steps.binds (ps := ["table", "row", "order"]) fun _ _ _ _ _ _ us hl => match us, hl with | [_, _, _], _ => rfl
  have F_result := fun_mk (st := s_result) l_result c_result k_result
  have b_result := F_result.binds (ps := ["table", "row", "order"]) fun _ _ _ _ _ _ us hl => match us, hl with | [_, _, _], _ => rfl
  have F_leaves_of := fun_mk (st := s_leaves_of) l_leaves_of c_leaves_of k_leaves_of
  have b_leaves_of := F_leaves_of.binds (ps := ["tree"]) fun _ _ _ _ _ _ us hl => match us, hl with | [_], _ => rfl
  have F_is_tree := fun_mk (st := s_is_tree) l_is_tree c_is_tree k_is_tree
  have b_is_tree := F_is_tree.binds (ps := ["value"]) fun _ _ _ _ _ _ us hl => match us, hl with | [_], _ => rfl
  have F_check_tree := fun_mk (st := s_check_tree) l_check_tree c_check_tree k_check_tree
  have b_check_tree := F_check_tree.binds (ps := ["tree"]) fun _ _ _ _ _ _ us hl => match us, hl with | [_], _ => rfl
  have F_order_from := fun_mk (st := s_order_from) l_order_from c_order_from k_order_from
  have b_order_from := F_order_from.binds (ps := ["tree", "start"]) fun _ _ _ _ _ _ us hl => match us, hl with | [_, _], _ => rfl
  have F_order_of := fun_mk (st := s_order_of) l_order_of c_order_of k_order_of
  have b_order_of := F_order_of.binds (ps := ["tree"]) fun _ _ _ _ _ _ us hl => match us, hl with | [_], _ => rfl
  have F_Yard_init := fun_mk (st := s_Yard_init) l_Yard_init c_Yard_init k_Yard_init
  have b_Yard_init := F_Yard_init.binds (ps := ["self", "table", "row"]) fun _ _ _ _ _ _ us hl => match us, hl with | [_, _, _], _ => rfl
  have F_Yard_row := fun_mk (st := s_Yard_row) l_Yard_row c_Yard_row k_Yard_row
  have b_Yard_row := F_Yard_row.binds (ps := ["self"]) fun _ _ _ _ _ _ us hl => match us, hl with | [_], _ => rfl
  have F_Yard_shapes := fun_mk (st := s_Yard_shapes) l_Yard_shapes c_Yard_shapes k_Yard_shapes
  have b_Yard_shapes := F_Yard_shapes.binds (ps := ["self"]) fun _ _ _ _ _ _ us hl => match us, hl with | [_], _ => rfl
  have F_Yard_paid := fun_mk (st := s_Yard_paid) l_Yard_paid c_Yard_paid k_Yard_paid
  have b_Yard_paid := F_Yard_paid.binds (ps := ["self"]) fun _ _ _ _ _ _ us hl => match us, hl with | [_], _ => rfl
  have F_Yard_history := fun_mk (st := s_Yard_history) l_Yard_history c_Yard_history k_Yard_history
  have b_Yard_history := F_Yard_history.binds (ps := ["self"]) fun _ _ _ _ _ _ us hl => match us, hl with | [_], _ => rfl
  have F_Yard_join := fun_mk (st := s_Yard_join) l_Yard_join c_Yard_join k_Yard_join
  have b_Yard_join := F_Yard_join.binds (ps := ["self", "at"]) fun _ _ _ _ _ _ us hl => match us, hl with | [_, _], _ => rfl
  have F_Yard_part := fun_mk (st := s_Yard_part) l_Yard_part c_Yard_part k_Yard_part
  have b_Yard_part := F_Yard_part.binds (ps := ["self", "at"]) fun _ _ _ _ _ _ us hl => match us, hl with | [_, _], _ => rfl
  have F_cell_at := fun_mk (st := s_cell_at) l_cell_at c_cell_at k_cell_at
  have b_cell_at := F_cell_at.binds (ps := ["_law_script", "_law_k"]) fun _ _ _ _ _ _ us hl => match us, hl with | [_, _], _ => rfl
  have F_well := fun_mk (st := s_well) l_well c_well k_well
  have b_well := F_well.binds (ps := ["_law_cell"]) fun _ _ _ _ _ _ us hl => match us, hl with | [_], _ => rfl
  have F_draw := fun_mk (st := s_draw) l_draw c_draw k_draw
  have b_draw := F_draw.binds (ps := ["_law_well_here", "_law_many"]) fun _ _ _ _ _ _ us hl => match us, hl with | [_, _], _ => rfl
  have F_one := fun_mk (st := s_one) l_one c_one k_one
  have b_one := F_one.binds (ps := ["_law_well_here", "_law_some"]) fun _ _ _ _ _ _ us hl => match us, hl with | [_, _], _ => rfl
  have F_joins := fun_mk (st := s_joins) l_joins c_joins k_joins
  have b_joins := F_joins.binds (ps := ["_law_well_here", "_law_n"]) fun _ _ _ _ _ _ us hl => match us, hl with | [_, _], _ => rfl
  have F_row := fun_mk (st := s_row) l_row c_row k_row
  have b_row := F_row.binds (ps := ["_law_well_here", "_law_n", "_law_most"]) fun _ _ _ _ _ _ us hl => match us, hl with | [_, _, _], _ => rfl
  have F_order := fun_mk (st := s_order) l_order c_order k_order
  have b_order := F_order.binds (ps := ["_law_well_here", "_law_size"]) fun _ _ _ _ _ _ us hl => match us, hl with | [_, _], _ => rfl
  have F_backwards := fun_mk (st := s_backwards) l_backwards c_backwards k_backwards
  have b_backwards := F_backwards.binds (ps := ["_law_yard", "_law_steps_done"]) fun _ _ _ _ _ _ us hl => match us, hl with | [_, _], _ => rfl
  have F_possible := fun_mk (st := s_possible) l_possible c_possible k_possible
  have b_possible := F_possible.binds (ps := ["_law_well_here", "_law_yard"]) fun _ _ _ _ _ _ us hl => match us, hl with | [_, _], _ => rfl
  have F_sum := fun_mk (st := s_sum) l_sum c_sum k_sum
  have b_sum := F_sum.binds (ps := ["_law_prices", "_law_row_here"]) fun _ _ _ _ _ _ us hl => match us, hl with | [_, _], _ => rfl
  have F_law := fun_mk (st := s_law) l_law c_law k_law
  have b_law := F_law.binds (ps := ["_law_script"]) fun _ _ _ _ _ _ us hl => match us, hl with | [_], _ => rfl
  have g_is_integer := fn_is_integer T F_is_integer
  have n_is_integer := Fn.of X G a_is_integer F_is_integer b_is_integer g_is_integer
  have g_is_between := fn_is_between T n_is_integer F_is_between
  have n_is_between := FnK.of X G a_is_between F_is_between b_is_between g_is_between
  have g_check_grid := fn_check_grid T n_is_between F_check_grid
  have n_check_grid := FnK.of X G a_check_grid F_check_grid b_check_grid g_check_grid
  have g_check_joins := fn_check_joins T c_MOST_KINDS n_check_grid F_check_joins
  have n_check_joins := Fn.of X G a_check_joins F_check_joins b_check_joins g_check_joins
  have g_Table_init := fn_Table_init T KCt c_TOLL_BOUND n_check_joins n_check_grid F_Table_init
  have n_Table_init := Mkr.of X G qCt ⟨mkCt, a_Table_init, i_Table_init, kcCt⟩ b_Table_init g_Table_init
  have g_Table_count := fn_Table_count T KCt F_Table_count
  have n_Table_count := Mth.of clCt ⟨a_Table_count, i_Table_count, k_Table_count⟩ b_Table_count g_Table_count
  have g_Table_check_kind := fn_Table_check_kind T KCt n_is_between n_Table_count F_Table_check_kind
  have n_Table_check_kind := Mth.of clCt ⟨a_Table_check_kind, i_Table_check_kind, k_Table_check_kind⟩ b_Table_check_kind g_Table_check_kind
  have g_Table_join := fn_Table_join T KCt n_Table_check_kind F_Table_join
  have n_Table_join := Mth.of clCt ⟨a_Table_join, i_Table_join, k_Table_join⟩ b_Table_join g_Table_join
  have g_Table_toll := fn_Table_toll T KCt n_Table_check_kind F_Table_toll
  have n_Table_toll := Mth.of clCt ⟨a_Table_toll, i_Table_toll, k_Table_toll⟩ b_Table_toll g_Table_toll
  have g_tolls_of_worths := fn_tolls_of_worths T c_TOLL_BOUND n_check_joins n_is_between F_tolls_of_worths
  have n_tolls_of_worths := Fn.of X G a_tolls_of_worths F_tolls_of_worths b_tolls_of_worths g_tolls_of_worths
  have g_check_row := fn_check_row T KCt c_MOST_ITEMS n_is_between n_Table_count F_check_row
  have n_check_row := Fn.of X G a_check_row F_check_row b_check_row g_check_row
  have g_check_order := fn_check_order T n_is_between F_check_order
  have n_check_order := Fn.of X G a_check_order F_check_order b_check_order g_check_order
  have g_steps := fn_steps T KCt n_check_row n_check_order n_Table_join F_steps
  have n_steps := Fn.of X G a_steps F_steps b_steps g_steps
  have g_result := fn_result T KCt n_steps n_Table_toll F_result
  have n_result := Fn.of X G a_result F_result b_result g_result
  have g_leaves_of := fn_leaves_of T c_MOST_ITEMS F_leaves_of
  have n_leaves_of := Fn.of X G a_leaves_of F_leaves_of b_leaves_of g_leaves_of
  have g_is_tree := fn_is_tree T c_MOST_ITEMS n_leaves_of n_is_between F_is_tree
  have n_is_tree := Fn.of X G a_is_tree F_is_tree b_is_tree g_is_tree
  have g_check_tree := fn_check_tree T n_is_tree F_check_tree
  have n_check_tree := Fn.of X G a_check_tree F_check_tree b_check_tree g_check_tree
  have g_order_from := fn_order_from T (PySem.W.mg_of X G a_order_from) k_order_from b_order_from F_order_from 8
  have n_order_from := Fn.of X G a_order_from F_order_from b_order_from g_order_from
  have g_order_of := fn_order_of T n_check_tree n_order_from F_order_of
  have n_order_of := Fn.of X G a_order_of F_order_of b_order_of g_order_of
  have g_Yard_init := fn_Yard_init T KC n_check_row F_Yard_init
  have n_Yard_init := Mkr.of X G qC ⟨mkC, a_Yard_init, i_Yard_init, kcC⟩ b_Yard_init g_Yard_init
  have g_Yard_row := fn_Yard_row (Ct := Ct) T KC F_Yard_row
  have n_Yard_row := Mth.of clC ⟨a_Yard_row, i_Yard_row, k_Yard_row⟩ b_Yard_row g_Yard_row
  have g_Yard_shapes := fn_Yard_shapes (Ct := Ct) T KC F_Yard_shapes
  have n_Yard_shapes := Mth.of clC ⟨a_Yard_shapes, i_Yard_shapes, k_Yard_shapes⟩ b_Yard_shapes g_Yard_shapes
  have g_Yard_paid := fn_Yard_paid (Ct := Ct) T KC F_Yard_paid
  have n_Yard_paid := Mth.of clC ⟨a_Yard_paid, i_Yard_paid, k_Yard_paid⟩ b_Yard_paid g_Yard_paid
  have g_Yard_history := fn_Yard_history (Ct := Ct) T KC F_Yard_history
  have n_Yard_history := Mth.of clC ⟨a_Yard_history, i_Yard_history, k_Yard_history⟩ b_Yard_history g_Yard_history
  have g_Yard_join := fn_Yard_join T KC KCt n_is_between n_Table_join n_Table_toll F_Yard_join
  have n_Yard_join := Mth.of clC ⟨a_Yard_join, i_Yard_join, k_Yard_join⟩ b_Yard_join g_Yard_join
  have g_Yard_part := fn_Yard_part T KC KCt n_is_between n_Table_toll F_Yard_part
  have n_Yard_part := Mth.of clC ⟨a_Yard_part, i_Yard_part, k_Yard_part⟩ b_Yard_part g_Yard_part
  have g_cell_at := fn_cell_at T F_cell_at
  have n_cell_at := Fn.of X G a_cell_at F_cell_at b_cell_at g_cell_at
  have g_well := fn_well T F_well
  have n_well := Fn.of X G a_well F_well b_well g_well
  have g_draw := fn_draw T F_draw
  have n_draw := Fn.of X G a_draw F_draw b_draw g_draw
  have g_one := fn_one T n_draw F_one
  have n_one := Fn.of X G a_one F_one b_one g_one
  have g_joins := fn_joins T n_draw F_joins
  have n_joins := Fn.of X G a_joins F_joins b_joins g_joins
  have g_row := fn_row T n_draw F_row
  have n_row := Fn.of X G a_row F_row b_row g_row
  have g_order := fn_order T n_draw F_order
  have n_order := Fn.of X G a_order F_order b_order g_order
  have g_backwards := fn_backwards T n_Yard_join n_Yard_part F_backwards
  have n_backwards := Fn.of X G a_backwards F_backwards b_backwards g_backwards
  have g_possible := fn_possible T n_Yard_shapes n_one F_possible
  have n_possible := Fn.of X G a_possible F_possible b_possible g_possible
  have g_sum := fn_sum T F_sum
  have n_sum := Fn.of X G a_sum F_sum b_sum g_sum
  exact fn_law T ⟨n_well, n_draw, n_one, n_joins, n_row, n_order, n_backwards, n_possible, n_sum, n_cell_at, n_tolls_of_worths, n_result, n_order_of, n_Table_init, n_Yard_init, n_Yard_join, n_Yard_part, n_Yard_row, n_Yard_shapes, n_Yard_paid, n_Yard_history⟩ F_law
end Y
open PySem PySem.W PyProof.Rows
set_option maxRecDepth 100000 in
set_option maxHeartbeats 0 in
theorem PySem.Challenge.cw_jointoll_k54_whole_yards_and_worths_holds : PySem.Challenge.rw_jointoll_k54_whole_yards_and_worths.Holds := by
  w_on; o_law; k_head; (case hw => w_witness2)
  k_fill
  refine Y.endY (l := PySem.Challenge.rw_jointoll_k54_whole_yards_and_worths) (n := 63) (k := 11) (x := "_law_script") (sp := fun K => Y.spLawK K) rfl (by decide) rfl ⟨rfl, by decide, by decide⟩ (fun w h Y => PySem.W.kIn_of Y) ?F (fun K H a ns hl hS => Y.spLaw_start hl hS)
  case F =>
    intro w mg fa h KX G hmg
    refine' Y.all_mk KX G hmg ?qCt ?qC ?a_is_integer ?l_is_integer ?c_is_integer ?k_is_integer ?a_is_between ?l_is_between ?c_is_between ?k_is_between ?a_check_grid ?l_check_grid ?c_check_grid ?k_check_grid ?a_check_joins ?l_check_joins ?c_check_joins ?k_check_joins ?a_Table_init ?i_Table_init ?l_Table_init ?c_Table_init ?k_Table_init ?a_Table_count ?i_Table_count ?l_Table_count ?c_Table_count ?k_Table_count ?a_Table_check_kind ?i_Table_check_kind ?l_Table_check_kind ?c_Table_check_kind ?k_Table_check_kind ?a_Table_join ?i_Table_join ?l_Table_join ?c_Table_join ?k_Table_join ?a_Table_toll ?i_Table_toll ?l_Table_toll ?c_Table_toll ?k_Table_toll ?a_tolls_of_worths ?l_tolls_of_worths ?c_tolls_of_worths ?k_tolls_of_worths ?a_check_row ?l_check_row ?c_check_row ?k_check_row ?a_check_order ?l_check_order ?c_check_order ?k_check_order ?a_steps ?l_steps ?c_steps ?k_steps ?a_result ?l_result ?c_result ?k_result ?a_leaves_of ?l_leaves_of ?c_leaves_of ?k_leaves_of ?a_is_tree ?l_is_tree ?c_is_tree ?k_is_tree ?a_check_tree ?l_check_tree ?c_check_tree ?k_check_tree ?a_order_from ?l_order_from ?c_order_from ?k_order_from ?a_order_of ?l_order_of ?c_order_of ?k_order_of ?a_Yard_init ?i_Yard_init ?l_Yard_init ?c_Yard_init ?k_Yard_init ?a_Yard_row ?i_Yard_row ?l_Yard_row ?c_Yard_row ?k_Yard_row ?a_Yard_shapes ?i_Yard_shapes ?l_Yard_shapes ?c_Yard_shapes ?k_Yard_shapes ?a_Yard_paid ?i_Yard_paid ?l_Yard_paid ?c_Yard_paid ?k_Yard_paid ?a_Yard_history ?i_Yard_history ?l_Yard_history ?c_Yard_history ?k_Yard_history ?a_Yard_join ?i_Yard_join ?l_Yard_join ?c_Yard_join ?k_Yard_join ?a_Yard_part ?i_Yard_part ?l_Yard_part ?c_Yard_part ?k_Yard_part ?a_cell_at ?l_cell_at ?c_cell_at ?k_cell_at ?a_well ?l_well ?c_well ?k_well ?a_draw ?l_draw ?c_draw ?k_draw ?a_one ?l_one ?c_one ?k_one ?a_joins ?l_joins ?c_joins ?k_joins ?a_row ?l_row ?c_row ?k_row ?a_order ?l_order ?c_order ?k_order ?a_backwards ?l_backwards ?c_backwards ?k_backwards ?a_possible ?l_possible ?c_possible ?k_possible ?a_sum ?l_sum ?c_sum ?k_sum ?a_law ?l_law ?c_law ?k_law ?pgCt ?hdCt ?poCt ?saCt ?mkCt ?kcCt ?nCt_results ?nCt_prices ?pgC ?hdC ?poC ?saC ?mkC ?kcC ?nC_table ?nC_goods ?nC_forms ?nC_kinds ?nC_total ?nC_deeds ?v_MOST_KINDS ?v_TOLL_BOUND ?v_MOST_ITEMS ?z_isinstance ?z_int ?z_bool ?z_str ?z_len ?z_list ?z_tuple ?z_dict ?z_range ?z_enumerate ?z_zip ?z_sum ?z_all ?z_any ?z_max ?z_min ?z_abs ?z_repr ?z_sorted ?z_set ?z_ValueError
    (case qCt => k_is); (case qC => k_is); (case a_is_integer => k_is); (case l_is_integer => k_is); (case c_is_integer => k_is); (case k_is_integer => k_is); (case a_is_between => k_is); (case l_is_between => k_is)
    (case c_is_between => k_is); (case k_is_between => k_is); (case a_check_grid => k_is); (case l_check_grid => k_is); (case c_check_grid => k_is); (case k_check_grid => k_is); (case a_check_joins => k_is); (case l_check_joins => k_is)
    (case c_check_joins => k_is); (case k_check_joins => k_is); (case a_Table_init => k_is); (case i_Table_init => k_is); (case l_Table_init => k_is); (case c_Table_init => k_is); (case k_Table_init => k_is); (case a_Table_count => k_is)
    (case i_Table_count => k_is); (case l_Table_count => k_is); (case c_Table_count => k_is); (case k_Table_count => k_is); (case a_Table_check_kind => k_is); (case i_Table_check_kind => k_is); (case l_Table_check_kind => k_is); (case c_Table_check_kind => k_is)
    (case k_Table_check_kind => k_is); (case a_Table_join => k_is); (case i_Table_join => k_is); (case l_Table_join => k_is); (case c_Table_join => k_is); (case k_Table_join => k_is); (case a_Table_toll => k_is); (case i_Table_toll => k_is)
    (case l_Table_toll => k_is); (case c_Table_toll => k_is); (case k_Table_toll => k_is); (case a_tolls_of_worths => k_is); (case l_tolls_of_worths => k_is); (case c_tolls_of_worths => k_is); (case k_tolls_of_worths => k_is); (case a_check_row => k_is)
    (case l_check_row => k_is); (case c_check_row => k_is); (case k_check_row => k_is); (case a_check_order => k_is); (case l_check_order => k_is); (case c_check_order => k_is); (case k_check_order => k_is); (case a_steps => k_is)
    (case l_steps => k_is); (case c_steps => k_is); (case k_steps => k_is); (case a_result => k_is); (case l_result => k_is); (case c_result => k_is); (case k_result => k_is); (case a_leaves_of => k_is)
    (case l_leaves_of => k_is); (case c_leaves_of => k_is); (case k_leaves_of => k_is); (case a_is_tree => k_is); (case l_is_tree => k_is); (case c_is_tree => k_is); (case k_is_tree => k_is); (case a_check_tree => k_is)
    (case l_check_tree => k_is); (case c_check_tree => k_is); (case k_check_tree => k_is); (case a_order_from => k_is); (case l_order_from => k_is); (case c_order_from => k_is); (case k_order_from => k_is); (case a_order_of => k_is)
    (case l_order_of => k_is); (case c_order_of => k_is); (case k_order_of => k_is); (case a_Yard_init => k_is); (case i_Yard_init => k_is); (case l_Yard_init => k_is); (case c_Yard_init => k_is); (case k_Yard_init => k_is)
    (case a_Yard_row => k_is); (case i_Yard_row => k_is); (case l_Yard_row => k_is); (case c_Yard_row => k_is); (case k_Yard_row => k_is); (case a_Yard_shapes => k_is); (case i_Yard_shapes => k_is); (case l_Yard_shapes => k_is)
    (case c_Yard_shapes => k_is); (case k_Yard_shapes => k_is); (case a_Yard_paid => k_is); (case i_Yard_paid => k_is); (case l_Yard_paid => k_is); (case c_Yard_paid => k_is); (case k_Yard_paid => k_is); (case a_Yard_history => k_is)
    (case i_Yard_history => k_is); (case l_Yard_history => k_is); (case c_Yard_history => k_is); (case k_Yard_history => k_is); (case a_Yard_join => k_is); (case i_Yard_join => k_is); (case l_Yard_join => k_is); (case c_Yard_join => k_is)
    (case k_Yard_join => k_is); (case a_Yard_part => k_is); (case i_Yard_part => k_is); (case l_Yard_part => k_is); (case c_Yard_part => k_is); (case k_Yard_part => k_is); (case a_cell_at => k_is); (case l_cell_at => k_is)
    (case c_cell_at => k_is); (case k_cell_at => k_is); (case a_well => k_is); (case l_well => k_is); (case c_well => k_is); (case k_well => k_is); (case a_draw => k_is); (case l_draw => k_is)
    (case c_draw => k_is); (case k_draw => k_is); (case a_one => k_is); (case l_one => k_is); (case c_one => k_is); (case k_one => k_is); (case a_joins => k_is); (case l_joins => k_is)
    (case c_joins => k_is); (case k_joins => k_is); (case a_row => k_is); (case l_row => k_is); (case c_row => k_is); (case k_row => k_is); (case a_order => k_is); (case l_order => k_is)
    (case c_order => k_is); (case k_order => k_is); (case a_backwards => k_is); (case l_backwards => k_is); (case c_backwards => k_is); (case k_backwards => k_is); (case a_possible => k_is); (case l_possible => k_is)
    (case c_possible => k_is); (case k_possible => k_is); (case a_sum => k_is); (case l_sum => k_is); (case c_sum => k_is); (case k_sum => k_is); (case a_law => k_is); (case l_law => k_is)
    (case c_law => k_is); (case k_law => k_is); (case pgCt => k_is); (case hdCt => k_is); (case poCt => k_is); (case saCt => k_is); (case mkCt => k_is); (case kcCt => k_is)
    (case nCt_results => k_is); (case nCt_prices => k_is); (case pgC => k_is); (case hdC => k_is); (case poC => k_is); (case saC => k_is); (case mkC => k_is); (case kcC => k_is)
    (case nC_table => k_is); (case nC_goods => k_is); (case nC_forms => k_is); (case nC_kinds => k_is); (case nC_total => k_is); (case nC_deeds => k_is); (case v_MOST_KINDS => k_is); (case v_TOLL_BOUND => k_is)
    (case v_MOST_ITEMS => k_is); (case z_isinstance => k_is); (case z_int => k_is); (case z_bool => k_is); (case z_str => k_is); (case z_len => k_is); (case z_list => k_is); (case z_tuple => k_is)
    (case z_dict => k_is); (case z_range => k_is); (case z_enumerate => k_is); (case z_zip => k_is); (case z_sum => k_is); (case z_all => k_is); (case z_any => k_is); (case z_max => k_is)
    (case z_min => k_is); (case z_abs => k_is); (case z_repr => k_is); (case z_sorted => k_is); (case z_set => k_is); (case z_ValueError => k_is)

