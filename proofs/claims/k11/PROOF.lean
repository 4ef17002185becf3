import PyProof.Rows.All
import Wide.All
import OpenK.AllK
import Wide.FinOn
import HandS.ForMost
import HandS.Exc
import HandS.ForSpec
import HandS.Zip
import HandS.Strs
import HandS.SetFor
import HandS.SortInts
import HandS.IsInst
import HandS.WordsDict
import HandS.TupAny
import KE.GoesEnum
import HandS.Text
import HandS.ExcInit
import HandS.ExcIs
import KE.KExcIs
import HandS.TryMany
import HandS.Style
import HandS.HotCalls
import HandS.TupLe
import PyProof.FitsReplace
import HandS.Ends
import PyProof.ReprRoads
import HandS.Conv
import HandS.More
import HandS.SortKw
import KE.DataMinMax
import HandS.NoneIn
import KE.GoesRaise
import HandS.DictEq
import HandS.DictTup
import KE.KDictCopyH
import HandS.EndTab
import HandS.HeadHook4
import KE.DataMinKey
import OpenK.KWalk
import KE.KNestM
import PyProof.Rows.StrInSeq3
import KE.GoesMore
import KE.KDictDisplayH
import KE.KDictZip
import KE.KDictKeyed
import HandS.TupLen
import KE.KDictLaws
import KE.GoesZip
import HandS.ExcOwn
import PySem.Challenge.RW_meetdesks_k11_both_either_turned
set_option Elab.async false
set_option linter.all false
set_option maxRecDepth 100000
set_option maxHeartbeats 4000000
/-! MD: typed judgements over the hand layer: what is frozen is plain data, what is owned is a cell; a def's walk gives a condition in plain Lean. -/
namespace MD
open PySem PySem.Spec PyProof.Rows L2
/-! ### the weakest readings -/
section
variable (X : Cx)
def WE (e : Expr) : TE := fun σ H Q => ∀ pins s, Inv X pins σ H s → wpAny (model X.prog X.w) X.A (eval e X.env) (EP X pins σ Q) X.xe s
def WT (e : Expr) : TT := fun σ H Q => ∀ pins s, Inv X pins σ H s → wpAny (model X.prog X.w) X.A (isTrue e X.env (eval e X.env)) (TP X pins σ Q) X.xe s
def WW (e : Expr) : TT := fun σ H Q => ∀ (wh : Sem Value) pins s, Inv X pins σ H s → wpAny (model X.prog X.w) X.A (isTrue e X.env wh) (TP X pins σ Q) X.xe s
def WA (es : List Expr) : TA := fun σ H Q => ∀ (pos : Pos) pins s, Inv X pins σ H s → wpAny (model X.prog X.w) X.A (spliced (backTo pos (starEach es X.env))) (AP X pins σ Q) X.xe s
def WS (st : Stmt) : TS := fun D σ H => ∀ pins s, Inv X pins σ H s → wpAny (model X.prog X.w) X.A (exec st X.env) (SP X pins D) X.xe s
def WB (st : List Stmt) : TS := fun D σ H => ∀ pins s, Inv X pins σ H s → wpAny (model X.prog X.w) X.A (execs st X.env) (SP X pins D) X.xe s
def WG (tg : Expr) : TG := fun v σ H Q => ∀ pins s u, Inv X pins σ H s → RelV v u → wpAny (model X.prog X.w) X.A (assign tg X.env u) (fun _ s' => ∃ σ' H', Inv X pins σ' H' s' ∧ Q σ' H') X.xe s
def WGs (tgs : List Expr) : TGs := fun vs σ H Q => ∀ pins s us, Inv X pins σ H s → Vals vs us →
    wpAny (model X.prog X.w) X.A (assignInOrder ((assignEach tgs X.env).map (·.2)) us) (fun _ s' => ∃ σ' H', Inv X pins σ' H' s' ∧ Q σ' H') X.xe s
def WI (tg iter : Expr) : TI := fun σ H R => ∀ pins s, Inv X pins σ H s → wpAny (model X.prog X.w) X.A (eval iter X.env) (fun v s1 => wpAny (model X.prog X.w) X.A (pyIter v) (PIE X pins σ tg R) X.xe s1) X.xe s
def WTs (ifs : List Expr) : TT := fun σ H Q => ∀ pins s, Inv X pins σ H s →
    wpAny (model X.prog X.w) X.A (forIn ifs true fun c r => if r = true then do let ok ← isTrue c X.env (eval c X.env); pure (ForInStep.yield ok) else pure (ForInStep.yield r)) (TP X pins σ Q) X.xe s
end
section
variable {X : Cx}
theorem pe_w {e : Expr} : PE X e (WE X e) := ⟨fun pins s _ _ _ I h => h pins s I⟩
theorem pt_w {e : Expr} : PT X e (WT X e) := ⟨fun pins s _ _ _ I h => h pins s I⟩
theorem pw_w {e : Expr} : PW X e (WW X e) := ⟨fun wh pins s _ _ _ I h => h wh pins s I⟩
theorem pa_w {es : List Expr} : PA X es (WA X es) := ⟨fun pos pins s _ _ _ I h => h pos pins s I⟩
theorem ps_w {st : Stmt} : PS X st (WS X st) := ⟨fun pins s _ _ _ I h => h pins s I⟩
theorem pss_w {st : List Stmt} : PSs X st (WB X st) := ⟨fun pins s _ _ _ I h => h pins s I⟩
theorem pg_w {tg : Expr} : PG X tg (WG X tg) := ⟨fun pins s _ _ _ u _ I r h => h pins s u I r⟩
theorem pgs_w {tgs : List Expr} : PGs X tgs (WGs X tgs) := ⟨fun pins s _ _ _ us _ I r h => h pins s us I r⟩
theorem pi_w {tg iter : Expr} : PI X tg iter (WI X tg iter) := ⟨fun pins s _ _ _ I h => h pins s I⟩
theorem we {e : Expr} {t : TE} (h : PE X e t) {σ H Q} (q : t σ H Q) : WE X e σ H Q := fun pins s I => h.run pins s σ H Q I q
theorem wt {e : Expr} {t : TT} (h : PT X e t) {σ H Q} (q : t σ H Q) : WT X e σ H Q := fun pins s I => h.run pins s σ H Q I q
theorem ww {e : Expr} {t : TT} (h : PW X e t) {σ H Q} (q : t σ H Q) : WW X e σ H Q := fun wh pins s I => h.run wh pins s σ H Q I q
theorem wa {es : List Expr} {t : TA} (h : PA X es t) {σ H Q} (q : t σ H Q) : WA X es σ H Q := fun pos pins s I => h.run pos pins s σ H Q I q
theorem ws {st : Stmt} {t : TS} (h : PS X st t) {D σ H} (q : t D σ H) : WS X st D σ H := fun pins s I => h.run pins s σ H D I q
theorem wb {st : List Stmt} {t : TS} (h : PSs X st t) {D σ H} (q : t D σ H) : WB X st D σ H := fun pins s I => h.run pins s σ H D I q
theorem wg {tg : Expr} {t : TG} (h : PG X tg t) {v σ H Q} (q : t v σ H Q) : WG X tg v σ H Q := fun pins s u I r => h.run pins s σ H v u Q I r q
theorem wgs {tgs : List Expr} {t : TGs} (h : PGs X tgs t) {vs σ H Q} (q : t vs σ H Q) : WGs X tgs vs σ H Q := fun pins s us I r => h.run pins s σ H vs us Q I r q
theorem wi {tg iter : Expr} {t : TI} (h : PI X tg iter t) {σ H R} (q : t σ H R) : WI X tg iter σ H R := fun pins s I => h.run pins s σ H R I q
theorem wts {ifs : List Expr} {t : TT} (h : PTs X ifs t) {σ H Q} (q : t σ H Q) : WTs X ifs σ H Q := fun pins s I => h.run pins s σ H Q I q
end
/-! ### types -/
structure Ty (K : PySem.W.Frag) (α : Type) where
  rep : Hp → V → α → Prop
  mono : ∀ {F F' : Hp} {v : V} {x : α}, Same F F' → rep F v x → rep F' v x
/-- several values in a row -/
structure Tys (K : PySem.W.Frag) (α : Type) where
  rep : Hp → List V → α → Prop
  mono : ∀ {F F' : Hp} {v : List V} {x : α}, Same F F' → rep F v x → rep F' v x
theorem same_sqT {K : PySem.W.Frag} {H H' : Hp} {a : Addr} {xs : List V} (e : Same H H') (h : SqT K H a xs) : SqT K H' a xs := by
  rcases h with (h | ⟨o, h⟩) | h
  · exact .inl (.inl (e _ _ h))
  · exact .inl (.inr ⟨o, e _ _ h⟩)
  · exact .inr h
theorem same_rd {H H' : Hp} {a : Addr} {u : HO} (e : Same H H') (h : Rd H a u) : Rd H' a u := by
  rcases h with h | ⟨o, h⟩
  · exact .inl (e a _ h)
  · exact .inr ⟨o, e a _ h⟩
theorem paired_mono {α β : Type} {f g : α → β → Prop} (h : ∀ a b, f a b → g a b) : ∀ {xs : List α} {ys : List β}, Paired f xs ys → Paired g xs ys
  | _, _, .nil => .nil
  | _, _, .cons r t => .cons (h _ _ r) (paired_mono h t)
section
variable {K : PySem.W.Frag} {α β γ : Type}
def tI : Ty K Int := ⟨fun _ v x => v = .int x, fun _ h => h⟩
def tB : Ty K Bool := ⟨fun _ v x => v = .bl x, fun _ h => h⟩
def tS : Ty K Str := ⟨fun _ v x => v = .str x ∧ PySem.PyData.strOk x = true, fun _ h => h⟩
def tN : Ty K Unit := ⟨fun _ v _ => v = .non, fun _ h => h⟩
def tR : Ty K Addr := ⟨fun _ v x => v = .ref x, fun _ h => h⟩
def tO (T : Ty K α) : Ty K (Option α) := ⟨fun F v x => match x with | none => v = .non | some y => T.rep F v y, fun {F F' v x} e h => by
  cases x with
  | none => exact h
  | some y => exact T.mono e h⟩
def Rl (T : Ty K α) (F : Hp) : List V → List α → Prop := Paired (T.rep F)
theorem Rl.mono {T : Ty K α} {F F' : Hp} {vs : List V} {xs : List α} (e : Same F F') (h : Rl T F vs xs) : Rl T F' vs xs := paired_mono (fun _ _ r => T.mono e r) h
def tL (T : Ty K α) : Ty K (List α) := ⟨fun F v xs => ∃ a vs, v = .ref a ∧ F a = some (.lst vs) ∧ Rl T F vs xs ∧ vs.length ≤ sizeLine, fun e ⟨a, vs, h1, h2, h3, h4⟩ => ⟨a, vs, h1, e _ _ h2, h3.mono e, h4⟩⟩
/-- a list that may be the module's own, or the script -/
def tLK (T : Ty K α) : Ty K (List α) := ⟨fun F v xs => ∃ a vs, v = .ref a ∧ SqL K F a vs ∧ Rl T F vs xs ∧ vs.length ≤ sizeLine, fun e ⟨a, vs, h1, h2, h3, h4⟩ => ⟨a, vs, h1, e.seq h2, h3.mono e, h4⟩⟩
def tU (T : Ty K α) : Ty K (List α) := ⟨fun F v xs => ∃ a vs, v = .ref a ∧ Rd F a (.tup vs) ∧ Rl T F vs xs ∧ vs.length ≤ sizeLine, fun e ⟨a, vs, h1, h2, h3, h4⟩ => ⟨a, vs, h1, same_rd e h2, h3.mono e, h4⟩⟩
def ts0 : Tys K Unit := ⟨fun _ vs _ => vs = [], fun _ h => h⟩
def ts1 (T : Ty K α) : Tys K α := ⟨fun F vs x => ∃ v, vs = [v] ∧ T.rep F v x, fun e ⟨v, h, r⟩ => ⟨v, h, T.mono e r⟩⟩
def tsC (T : Ty K α) (Ts : Tys K β) : Tys K (α × β) := ⟨fun F vs x => ∃ v r, vs = v :: r ∧ T.rep F v x.1 ∧ Ts.rep F r x.2, fun e ⟨v, r, h, a, b⟩ => ⟨v, r, h, T.mono e a, Ts.mono e b⟩⟩
/-- a tuple of written places -/
def tT (Ts : Tys K α) : Ty K α := ⟨fun F v x => ∃ a vs, v = .ref a ∧ F a = some (.tup vs) ∧ Ts.rep F vs x, fun e ⟨a, vs, h1, h2, h3⟩ => ⟨a, vs, h1, e _ _ h2, Ts.mono e h3⟩⟩
def tP (T : Ty K α) (U : Ty K β) : Ty K (α × β) := tT (tsC T (ts1 U))
end
/-! ### slots, cells -/
inductive Slot (K : PySem.W.Frag) : Type 1 where
  | un
  | val {α : Type} (T : Ty K α) (x : α)
def Slot.ok {K : PySem.W.Frag} (F : Hp) : Slot K → Option V → Prop
  | .un, _ => True
  | .val T x, o => ∃ v, o = some v ∧ T.rep F v x
theorem Slot.ok.mono {K : PySem.W.Frag} {F F' : Hp} (e : Same F F') : ∀ {s : Slot K} {o : Option V}, Slot.ok F s o → Slot.ok F' s o
  | .un, _, _ => trivial
  | .val T _, _, ⟨v, h, r⟩ => ⟨v, h, T.mono e r⟩
/-- what lies in a cell -/
structure CK (K : PySem.W.Frag) where
  rep : Hp → HO → Prop
  mono : ∀ {F F' : Hp} {o : HO}, Same F F' → rep F o → rep F' o
structure Cell (K : PySem.W.Frag) where
  a : Addr
  ck : CK K
def cL {K : PySem.W.Frag} {α : Type} (T : Ty K α) (xs : List α) : CK K := ⟨fun F o => ∃ vs, o = .lst vs ∧ Rl T F vs xs ∧ vs.length ≤ sizeLine, fun e ⟨vs, h, r, z⟩ => ⟨vs, h, r.mono e, z⟩⟩
/-- paired lists over any universe -/
inductive Prd {α : Type 1} {β : Type} (R : α → β → Prop) : List α → List β → Prop
  | nil : Prd R [] []
  | cons {a : α} {b : β} {as : List α} {bs : List β} : R a b → Prd R as bs → Prd R (a :: as) (b :: bs)
section
variable {α : Type 1} {β : Type} {R S : α → β → Prop}
theorem Prd.mono (h : ∀ a b, R a b → S a b) : ∀ {xs : List α} {ys : List β}, Prd R xs ys → Prd S xs ys
  | _, _, .nil => .nil
  | _, _, .cons r t => .cons (h _ _ r) (Prd.mono h t)
theorem Prd.get : ∀ {xs : List α} {ys : List β} {i : Nat} {x : α}, Prd R xs ys → xs[i]? = some x → ∃ y, ys[i]? = some y ∧ R x y
  | _, _, _, _, .nil, e => by simp at e
  | _, _, 0, _, .cons r _, e => by simp at e; subst e; exact ⟨_, rfl, r⟩
  | _, _, i + 1, x, .cons _ t, e => by
    obtain ⟨u, h1, h2⟩ := Prd.get (i := i) (x := x) t (by simpa using e)
    exact ⟨u, by simpa using h1, h2⟩
theorem Prd.set {x : α} {u : β} (r : R x u) : ∀ {xs : List α} {ys : List β} (i : Nat), Prd R xs ys → Prd R (xs.set i x) (ys.set i u)
  | _, _, _, .nil => .nil
  | _, _, 0, .cons _ t => .cons r t
  | _, _, i + 1, .cons q t => .cons q (Prd.set r i t)
theorem Prd.length : ∀ {xs : List α} {ys : List β}, Prd R xs ys → xs.length = ys.length
  | _, _, .nil => rfl
  | _, _, .cons _ t => by rw [List.length_cons, List.length_cons, t.length]
theorem Prd.append {xs' : List α} {ys' : List β} : ∀ {xs : List α} {ys : List β}, Prd R xs ys → Prd R xs' ys' → Prd R (xs ++ xs') (ys ++ ys')
  | _, _, .nil, s => s
  | _, _, .cons r t, s => .cons r (Prd.append t s)
end
/-- a growth: F grows by new things, H keeps all -/
structure Grow (F H F' H' : Hp) : Prop where
  ff : Same F F'
  fh : Same F' H'
  hh : Same H H'
  fr : ∀ b, F b = none → F' b ≠ none → H b = none
section
variable {F F' H H' : Hp}
theorem Grow.refl (h : Same F H) : Grow F H F H := ⟨Same.refl F, h, Same.refl H, fun b h1 h2 => absurd h1 h2⟩
theorem Grow.trans {F1 H1 F2 H2 : Hp} (a : Grow F H F1 H1) (b : Grow F1 H1 F2 H2) : Grow F H F2 H2 where
  ff := a.ff.trans b.ff
  fh := b.fh
  hh := a.hh.trans b.hh
  fr := fun x h1 h2 => by
    by_cases h : F1 x = none
    · exact a.hh.free (b.fr x h h2)
    · exact a.fr x h1 h
/-- a new frozen thing -/
theorem grow_new (h : Same F H) {p : Addr} (hp : H p = none) (o : HO) : Grow F H (upd F p o) (upd H p o) where
  ff := fun b u e => by
    have : b ≠ p := fun z => by subst z; rw [h _ _ e] at hp; cases hp
    rw [upd_ne this]; exact e
  fh := fun b u e => by
    by_cases z : b = p
    · subst z; rw [upd_same] at e ⊢; exact e
    · rw [upd_ne z] at e ⊢; exact h _ _ e
  hh := fun b u e => by
    have : b ≠ p := fun z => by subst z; rw [e] at hp; cases hp
    rw [upd_ne this]; exact e
  fr := fun b n1 n2 => by
    by_cases z : b = p
    · subst z; exact hp
    · rw [upd_ne z] at n2; exact absurd n1 n2
end
/-- the weaker state that reading asks -/
structure Okw {K : PySem.W.Frag} (ρ : List (Slot K)) (cs : List (Cell K)) (F : Hp) (σ : L2.St) (H : Hp) : Prop where
  env : Prd (Slot.ok F) ρ σ
  same : Same F H
  cell : ∀ c ∈ cs, ∃ o, H c.a = some o ∧ c.ck.rep F o
section
variable {K : PySem.W.Frag} {ρ : List (Slot K)} {cs : List (Cell K)} {F F' H H' : Hp} {σ : L2.St}
theorem Okw.grow (o : Okw ρ cs F σ H) (g : Grow F H F' H') : Okw ρ cs F' σ H' :=
  ⟨o.env.mono fun _ _ r => r.mono g.ff, g.fh, fun c hc => let ⟨u, e, r⟩ := o.cell c hc; ⟨u, g.hh _ _ e, c.ck.mono g.ff r⟩⟩
theorem Okw.slot {α : Type} {T : Ty K α} {x : α} {i : Nat} (o : Okw ρ cs F σ H) (h : ρ[i]? = some (.val T x)) : ∃ v, σ[i]? = some (some v) ∧ T.rep F v x := by
  obtain ⟨u, h1, v, h2, r⟩ := o.env.get h
  subst h2
  exact ⟨v, h1, r⟩
end
/-! ### the judgements -/
section
/-- e gives x, if P; nothing that stands is changed -/
def PK (X : Cx) (e : Expr) (ρ : List (Slot X.K)) (cs : List (Cell X.K)) {α : Type} (T : Ty X.K α) (x : α) (P : Prop) : Prop :=
  ∀ F σ H, Okw ρ cs F σ H → P → ∀ Q : VK, (∀ v F' H', Grow F H F' H' → T.rep F' v x → Q v H') → WE X e σ H Q
def PAK (X : Cx) (es : List Expr) (ρ : List (Slot X.K)) (cs : List (Cell X.K)) {α : Type} (T : Tys X.K α) (x : α) (P : Prop) : Prop :=
  ∀ F σ H, Okw ρ cs F σ H → P → ∀ Q : List V → Hp → Prop, (∀ v F' H', Grow F H F' H' → T.rep F' v x → Q v H') → WA X es σ H Q
def PTK (X : Cx) (e : Expr) (ρ : List (Slot X.K)) (cs : List (Cell X.K)) (b : Bool) (P : Prop) : Prop :=
  ∀ F σ H, Okw ρ cs F σ H → P → ∀ Q : Bool → Hp → Prop, (∀ F' H', Grow F H F' H' → Q b H') → WT X e σ H Q
def PWK (X : Cx) (e : Expr) (ρ : List (Slot X.K)) (cs : List (Cell X.K)) (b : Bool) (P : Prop) : Prop :=
  ∀ F σ H, Okw ρ cs F σ H → P → ∀ Q : Bool → Hp → Prop, (∀ F' H', Grow F H F' H' → Q b H') → WW X e σ H Q
/-- an exception: its class, its fields -/
structure Exn (K : PySem.W.Frag) : Type 1 where
  c : Addr
  fs : List (Str × Slot K)
inductive FldOk {K : PySem.W.Frag} (F : Hp) : List (Str × Slot K) → List (Str × V) → Prop
  | nil : FldOk F [] []
  | cons {n : Str} {s : Slot K} {v : V} {as bs} : Slot.ok F s (some v) → FldOk F as bs → FldOk F ((n, s) :: as) ((n, v) :: bs)
def ExnRep {K : PySem.W.Frag} (F : Hp) (ex : Exn K) (cls : Value) (d : Option Addr) : Prop :=
  cls = .ref ex.c ∧ ((ex.fs = [] ∧ d = none) ∨ ∃ dd fs, d = some dd ∧ F dd = some (.xd fs) ∧ FldOk F ex.fs fs)
/-- what is wished of exceptions: ε of it, the cells kp as they were -/
structure Ec (K : PySem.W.Frag) : Type 1 where
  kp : List (Cell K)
  ε : Exn K → Prop
/-- the state that an expression asks -/
structure Okc {K : PySem.W.Frag} (ρ : List (Slot K)) (cs : List (Cell K)) (F : Hp) (σ : L2.St) (H : Hp) : Prop where
  env : Prd (Slot.ok F) ρ σ
  same : Same F H
  cell : ∀ c ∈ cs, F c.a = none ∧ ∃ o, H c.a = some o ∧ c.ck.rep F o
  nd : (cs.map Cell.a).Nodup
/-- from a state to another one: the cells cs alone have changed, and are cs' now, with new ones -/
structure Mv {K : PySem.W.Frag} (cs : List (Cell K)) (F H : Hp) (cs' : List (Cell K)) (F' H' : Hp) : Prop where
  ff : Same F F'
  fh : Same F' H'
  fr : ∀ b, F b = none → F' b ≠ none → H b = none
  kp : ∀ b o, H b = some o → (∀ c ∈ cs, c.a ≠ b) → H' b = some o
  cell : ∀ c ∈ cs', F' c.a = none ∧ ∃ o, H' c.a = some o ∧ c.ck.rep F' o
  nd : (cs'.map Cell.a).Nodup
  nw : ∀ c ∈ cs', (∃ c0 ∈ cs, c0.a = c.a) ∨ H c.a = none
  st : ∀ c ∈ cs, H' c.a ≠ none
section
variable {K : PySem.W.Frag} {ρ : List (Slot K)} {cs cs1 cs2 : List (Cell K)} {F F' F1 F2 H H' H1 H2 : Hp} {σ : L2.St}
theorem Okc.w (o : Okc ρ cs F σ H) : Okw ρ cs F σ H := ⟨o.env, o.same, fun c hc => (o.cell c hc).2⟩
theorem Okc.slot {α : Type} {T : Ty K α} {x : α} {i : Nat} (o : Okc ρ cs F σ H) (h : ρ[i]? = some (.val T x)) : ∃ v, σ[i]? = some (some v) ∧ T.rep F v x := o.w.slot h
theorem Okc.mv (o : Okc ρ cs F σ H) (m : Mv cs F H cs' F' H') : Okc ρ cs' F' σ H' := ⟨o.env.mono fun _ _ r => r.mono m.ff, m.fh, m.cell, m.nd⟩
theorem Okc.grow (o : Okc ρ cs F σ H) (g : Grow F H F' H') : Mv cs F H cs F' H' where
  ff := g.ff
  fh := g.fh
  fr := g.fr
  kp := fun b u e _ => g.hh b u e
  cell := fun c hc => by
    obtain ⟨n, u, e, r⟩ := o.cell c hc
    refine ⟨?_, u, g.hh _ _ e, c.ck.mono g.ff r⟩
    cases q : F' c.a with
    | none => rfl
    | some w =>
      have := g.fr c.a n (by rw [q]; simp)
      rw [e] at this; cases this
  nd := o.nd
  nw := fun c hc => .inl ⟨c, hc, rfl⟩
  st := fun c hc n => by
    obtain ⟨_, u, e, _⟩ := o.cell c hc
    rw [g.hh _ _ e] at n; cases n
theorem Okc.refl (o : Okc ρ cs F σ H) : Mv cs F H cs F H := o.grow (Grow.refl o.same)
theorem Mv.trans (a : Mv cs F H cs1 F1 H1) (b : Mv cs1 F1 H1 cs2 F2 H2) : Mv cs F H cs2 F2 H2 where
  ff := a.ff.trans b.ff
  fh := b.fh
  fr := fun x h1 h2 => by
    by_cases h : F1 x = none
    · have n1 := b.fr x h h2
      cases q : H x with
      | none => rfl
      | some o =>
        by_cases m : ∃ c ∈ cs, c.a = x
        · obtain ⟨c, hc, rfl⟩ := m
          exact absurd n1 (a.st c hc)
        · rw [a.kp x o q fun c hc e => m ⟨c, hc, e⟩] at n1; cases n1
    · exact a.fr x h1 h
  kp := fun x o e n => by
    have e1 := a.kp x o e n
    refine b.kp x o e1 fun c hc z => ?_
    rcases a.nw c hc with ⟨c0, h0, e0⟩ | h0
    · exact n c0 h0 (e0.trans z)
    · rw [z, e] at h0; cases h0
  cell := b.cell
  nd := b.nd
  nw := fun c hc => by
    rcases b.nw c hc with ⟨c0, h0, e0⟩ | h0
    · rcases a.nw c0 h0 with ⟨c1, h1, e1⟩ | h1
      · exact .inl ⟨c1, h1, e1.trans e0⟩
      · rw [e0] at h1; exact .inr h1
    · refine .inr ?_
      cases q : H c.a with
      | none => rfl
      | some o =>
        by_cases m : ∃ c1 ∈ cs, c1.a = c.a
        · obtain ⟨c1, hc1, e⟩ := m
          have := a.st c1 hc1
          rw [e] at this
          exact absurd h0 this
        · rw [a.kp c.a o q fun c1 hc1 e => m ⟨c1, hc1, e⟩] at h0; cases h0
  st := fun c hc n => by
    by_cases m : ∃ c1 ∈ cs1, c1.a = c.a
    · obtain ⟨c1, h1, e⟩ := m
      have := b.st c1 h1
      rw [e] at this
      exact this n
    · cases q : H1 c.a with
      | none => exact a.st c hc q
      | some o => rw [b.kp c.a o q fun c1 h1 e => m ⟨c1, h1, e⟩] at n; cases n
end
/-- where a def began -/
structure Hb (K : PySem.W.Frag) where
  F0 : Hp
  H0 : Hp
  cin : List (Cell K)
/-- the state of a def's body: names by slots, cells, and how it came from the beginning -/
structure Ok {K : PySem.W.Frag} (B : Hb K) (fl : Hp) (ρ : List (Slot K)) (cs : List (Cell K)) (F : Hp) (σ : L2.St) (H : Hp) : Prop where
  env : Prd (Slot.ok F) ρ σ
  mv : Mv B.cin B.F0 B.H0 cs F H
  flo : Same fl F
section
variable {K : PySem.W.Frag} {B : Hb K} {ρ : List (Slot K)} {cs cs1 cs2 : List (Cell K)} {F F' F1 F2 H H' H1 H2 : Hp} {σ : L2.St}
theorem Ok.c {fl : Hp} (o : Ok B fl ρ cs F σ H) : Okc ρ cs F σ H := ⟨o.env, o.mv.fh, o.mv.cell, o.mv.nd⟩
theorem Ok.to {fl : Hp} (o : Ok B fl ρ cs F σ H) (m : Mv cs F H cs1 F1 H1) : Ok B fl ρ cs1 F1 σ H1 := ⟨o.env.mono fun _ _ r => r.mono m.ff, o.mv.trans m, o.flo.trans m.ff⟩
theorem Ok.set {fl : Hp} {α : Type} {T : Ty K α} {x : α} {v : V} (i : Nat) (o : Ok B fl ρ cs F σ H) (r : T.rep F v x) : Ok B fl (ρ.set i (.val T x)) cs F (σ.set i (some v)) H := ⟨o.env.set (R := Slot.ok F) (x := .val T x) (u := some v) ⟨v, rfl, r⟩ i, o.mv, o.flo⟩
theorem Ok.unset {fl : Hp} (i : Nat) {u : Option V} (o : Ok B fl ρ cs F σ H) : Ok B fl (ρ.set i .un) cs F (σ.set i u) H := ⟨o.env.set (R := Slot.ok F) (x := .un) (u := u) trivial i, o.mv, o.flo⟩
theorem Ok.low {fl fl' : Hp} (o : Ok B fl' ρ cs F σ H) (h : Same fl fl') : Ok B fl ρ cs F σ H := ⟨o.env, o.mv, h.trans o.flo⟩
theorem Okc.set {α : Type} {T : Ty K α} {x : α} {v : V} (i : Nat) (o : Okc ρ cs F σ H) (r : T.rep F v x) : Okc (ρ.set i (.val T x)) cs F (σ.set i (some v)) H := ⟨o.env.set (R := Slot.ok F) (x := .val T x) (u := some v) ⟨v, rfl, r⟩ i, o.same, o.cell, o.nd⟩
end
/-- what an expression's exceptions meet -/
def Xh (X : Cx) (Y : Ec X.K) (cs : List (Cell X.K)) (F : Hp) (σ : L2.St) (H : Hp) : Prop :=
  ∃ W, Takes X W ∧ ∀ ex cls d cs2 F' H', Mv cs F H cs2 F' H' → (∀ c ∈ Y.kp, c ∈ cs2) → ExnRep F' ex cls d → Y.ε ex → W cls d σ H'
theorem Xh.mv {X : Cx} {Y : Ec X.K} {cs cs1 : List (Cell X.K)} {F F1 H H1 : Hp} {σ : L2.St} (x : Xh X Y cs F σ H) (m : Mv cs F H cs1 F1 H1) : Xh X Y cs1 F1 σ H1 := by
  obtain ⟨W, tk, h⟩ := x
  exact ⟨W, tk, fun ex cls d cs2 F' H' m2 kp r e => h ex cls d cs2 F' H' (m.trans m2) kp r e⟩
/-- e gives vl y of the type T, y being what the condition M hands on; the cells behind it are cs' y -/
def EK (X : Cx) (Y : Ec X.K) (e : Expr) (ρ : List (Slot X.K)) (cs : List (Cell X.K)) {μ α : Type} (T : Ty X.K α) (vl : μ → α) (cs' : μ → List (Cell X.K)) (M : (μ → Prop) → Prop) : Prop :=
  ∀ F σ H, Okc ρ cs F σ H → Xh X Y cs F σ H → ∀ φ : μ → Prop, M φ → ∀ Q : VK, (∀ y v F' H', Mv cs F H (cs' y) F' H' → T.rep F' v (vl y) → φ y → Q v H') → WE X e σ H Q
def AK (X : Cx) (Y : Ec X.K) (es : List Expr) (ρ : List (Slot X.K)) (cs : List (Cell X.K)) {μ α : Type} (T : Tys X.K α) (vl : μ → α) (cs' : μ → List (Cell X.K)) (M : (μ → Prop) → Prop) : Prop :=
  ∀ F σ H, Okc ρ cs F σ H → Xh X Y cs F σ H → ∀ φ : μ → Prop, M φ → ∀ Q : List V → Hp → Prop, (∀ y v F' H', Mv cs F H (cs' y) F' H' → T.rep F' v (vl y) → φ y → Q v H') → WA X es σ H Q
def TK (X : Cx) (Y : Ec X.K) (e : Expr) (ρ : List (Slot X.K)) (cs : List (Cell X.K)) {μ : Type} (vl : μ → Bool) (cs' : μ → List (Cell X.K)) (M : (μ → Prop) → Prop) : Prop :=
  ∀ F σ H, Okc ρ cs F σ H → Xh X Y cs F σ H → ∀ φ : μ → Prop, M φ → ∀ Q : Bool → Hp → Prop, (∀ y F' H', Mv cs F H (cs' y) F' H' → φ y → Q (vl y) H') → WT X e σ H Q
/-- a block, from a state of that form, if φ -/
def SK (X : Cx) (B : Hb X.K) (Y : Ec X.K) (fl : Hp) (st : List Stmt) (ρ : List (Slot X.K)) (cs : List (Cell X.K)) (D : Ends) (φ : Prop) : Prop :=
  ∀ F σ H, Ok B fl ρ cs F σ H → φ → ∀ W, Takes X W → (∀ ex cls d cs2 F' H' σ', Mv B.cin B.F0 B.H0 cs2 F' H' → (∀ c ∈ Y.kp, c ∈ cs2) → ExnRep F' ex cls d → Y.ε ex → W cls d σ' H') → WB X st D σ H
end
end MD
namespace MD
open PySem PySem.Spec PyProof.Rows L2
section
variable {X : Cx} {Y : Ec X.K} {ρ : List (Slot X.K)} {cs : List (Cell X.K)} {α β γ : Type} {pos : Pos}
/-! ### names, constants -/
theorem pk_var {i : Nat} {nm : Str} {T : Ty X.K α} {x : α} (hρ : ρ[i]? = some (.val T x)) (hN : X.N[i]? = some nm := by rfl) (hv : Vis X.env.scope nm := by first | exact Or.inl rfl | exact Or.inr (Or.inl rfl) | exact Or.inr (Or.inr rfl))
    (hd : (nm == ("__debug__" : Str)) = false := by decide) (hcd : (nm == ("__classdict__" : Str)) = false := by decide) : PK X (.Name nm pos) ρ cs T x True := fun F σ H ok _ Q k => by
  obtain ⟨v, e, r⟩ := ok.slot hρ
  exact we (pe_var hN hv hd hcd) ⟨v, e, k v F H (Grow.refl ok.same) r⟩
theorem pk_int {i : Int} {j} : PK X (.Constant (.int i) j pos) ρ cs tI i True := fun F σ H ok _ Q k => we pe_int (k _ F H (Grow.refl ok.same) rfl)
theorem pk_bl {b : Bool} {j} : PK X (.Constant (.bool b) j pos) ρ cs tB b True := fun F σ H ok _ Q k => we pe_bl (k _ F H (Grow.refl ok.same) rfl)
theorem pk_str {s : Str} {j} (hs : PySem.PyData.strOk s = true := by decide +kernel) : PK X (.Constant (.str s) j pos) ρ cs tS s True := fun F σ H ok _ Q k => we pe_str (k _ F H (Grow.refl ok.same) ⟨rfl, hs⟩)
/-- a constant of a module -/
theorem pk_glob {nm : Str} {v : V} {u : Value} {T : Ty X.K α} {x : α} (hm : X.mg nm = some u) (r : RelV v u) (hT : ∀ F, T.rep F v x) (hg : Gl X nm := by rfl) (hd : (nm == ("__debug__" : Str)) = false := by decide) : PK X (.Name nm pos) ρ cs T x True :=
  fun F σ H ok _ Q k => we (pe_glob hg hm r hd) (k _ F H (Grow.refl ok.same) (hT F))
/-! ### between the judgements -/
theorem PK.to {e : Expr} {T : Ty X.K α} {x x' : α} {P P' : Prop} (h : PK X e ρ cs T x P) (hx : x = x') (hp : P' → P) : PK X e ρ cs T x' P' := by
  subst hx
  exact fun F σ H ok p Q k => h F σ H ok (hp p) Q k
theorem PK.some {e : Expr} {T : Ty X.K α} {x : α} {P : Prop} (h : PK X e ρ cs T x P) : PK X e ρ cs (tO T) (some x) P := fun F σ H ok p Q k => h F σ H ok p Q k
theorem PK.ek {e : Expr} {T : Ty X.K α} {x : α} {P : Prop} (h : PK X e ρ cs T x P) : EK X Y e ρ cs T (fun _ : Unit => x) (fun _ => cs) (fun φ => P ∧ φ ()) := fun F σ H ok _ φ m Q k =>
  h F σ H ok.w m.1 Q fun v F' H' g r => k () v F' H' (ok.grow g) r m.2
theorem PAK.ak {es : List Expr} {T : Tys X.K α} {x : α} {P : Prop} (h : PAK X es ρ cs T x P) : AK X Y es ρ cs T (fun _ : Unit => x) (fun _ => cs) (fun φ => P ∧ φ ()) := fun F σ H ok _ φ m Q k =>
  h F σ H ok.w m.1 Q fun v F' H' g r => k () v F' H' (ok.grow g) r m.2
theorem PTK.tk {e : Expr} {b : Bool} {P : Prop} (h : PTK X e ρ cs b P) : TK X Y e ρ cs (fun _ : Unit => b) (fun _ => cs) (fun φ => P ∧ φ ()) := fun F σ H ok _ φ m Q k =>
  h F σ H ok.w m.1 Q fun F' H' g => k () F' H' (ok.grow g) m.2
/-! ### operators -/
def R2K {K : PySem.W.Frag} (r : R2) (T1 : Ty K α) (T2 : Ty K β) (T3 : Ty K γ) (C : α → β → Prop) (f : α → β → γ) : Prop :=
  ∀ F H v w x y, Same F H → T1.rep F v x → T2.rep F w y → C x y → ∀ Q : VK, (∀ z F' H', Grow F H F' H' → T3.rep F' z (f x y) → Q z H') → r v w H Q
def yes2 : α → β → Prop := fun _ _ => True
section
variable {K : PySem.W.Frag}
theorem r2_I {C : Int → Int → Prop} {g : Int → Int → Int} : R2K (K := K) (rI C fun i j => .int (g i j)) tI tI tI C g := fun F H v w x y s h1 h2 c Q k => ⟨x, y, h1, h2, c, k _ F H (Grow.refl s) rfl⟩
theorem r2_I0 {g : Int → Int → Int} : R2K (K := K) (rI0 fun i j => .int (g i j)) tI tI tI yes2 g := fun F H v w x y s h1 h2 c Q k => ⟨x, y, h1, h2, k _ F H (Grow.refl s) rfl⟩
theorem r2_B0 {g : Int → Int → Bool} : R2K (K := K) (rI0 fun i j => .bl (g i j)) tI tI tB yes2 g := fun F H v w x y s h1 h2 c Q k => ⟨x, y, h1, h2, k _ F H (Grow.refl s) rfl⟩
theorem r2_eqI : R2K (K := K) rEq tI tI tB yes2 (fun i j => decide (i = j)) := fun F H v w x y s h1 h2 c Q k => by
  cases h1; cases h2
  refine ⟨rfl, k _ F H (Grow.refl s) ?_⟩
  show V.bl _ = V.bl _
  rw [dec_int, Bool.beq_eq_decide_eq]
theorem r2_neI : R2K (K := K) rNe tI tI tB yes2 (fun i j => !decide (i = j)) := fun F H v w x y s h1 h2 c Q k => by
  cases h1; cases h2
  refine ⟨rfl, k _ F H (Grow.refl s) ?_⟩
  show V.bl _ = V.bl _
  rw [dec_int, Bool.beq_eq_decide_eq]
theorem dec_strD {i j : Str} : decide (V.str i = V.str j) = decide (i = j) := by
  by_cases h : i = j
  · subst h; simp
  · rw [decide_eq_false h, decide_eq_false fun q => h (V.str.inj q)]
theorem dec_blD {i j : Bool} : decide (V.bl i = V.bl j) = decide (i = j) := by
  by_cases h : i = j
  · subst h; simp
  · rw [decide_eq_false h, decide_eq_false fun q => h (V.bl.inj q)]
theorem r2_eqB : R2K (K := K) rEq tB tB tB yes2 (fun i j => decide (i = j)) := fun F H v w x y s h1 h2 c Q k => by
  cases h1; cases h2
  refine ⟨rfl, k _ F H (Grow.refl s) ?_⟩
  show V.bl _ = V.bl _
  rw [dec_blD]
theorem r2_neB : R2K (K := K) rNe tB tB tB yes2 (fun i j => !decide (i = j)) := fun F H v w x y s h1 h2 c Q k => by
  cases h1; cases h2
  refine ⟨rfl, k _ F H (Grow.refl s) ?_⟩
  show V.bl _ = V.bl _
  rw [dec_blD]
theorem strOk_app {a b : Str} (ha : PySem.PyData.strOk a = true) (hb : PySem.PyData.strOk b = true) : PySem.PyData.strOk (a ++ b) = true := by
  unfold PySem.PyData.strOk at *
  show (a.cps ++ b.cps).all _ = true
  rw [Array.all_append, ha, hb]
  rfl
theorem r2_addS : R2K (K := K) (fun x y H Q => ∃ i j, x = .str i ∧ y = .str j ∧ i.length + j.length ≤ sizeLine ∧ Q (.str (i ++ j)) H) tS tS tS (fun i j => i.length + j.length ≤ sizeLine) (· ++ ·) :=
  fun F H v w x y s h1 h2 c Q k => ⟨x, y, h1.1, h2.1, c, k _ F H (Grow.refl s) ⟨rfl, strOk_app h1.2 h2.2⟩⟩
end
theorem pk_op {op : Operator} {a b : Expr} {r : R2} {T1 : Ty X.K α} {T2 : Ty X.K β} {T3 : Ty X.K γ} {C : α → β → Prop} {f : α → β → γ} {x : α} {y : β} {P1 P2 : Prop} (ho : OpR X (binaryOp op) r) (hr : R2K r T1 T2 T3 C f)
    (ha : PK X a ρ cs T1 x P1) (hb : PK X b ρ cs T2 y P2) : PK X (.BinOp a op b pos) ρ cs T3 (f x y) (P1 ∧ P2 ∧ C x y) := fun F σ H ok p Q k => by
  refine we (pe_op ho pe_w pe_w) ?_
  refine ha F σ H ok p.1 _ fun v F1 H1 g1 r1 => ?_
  refine hb F1 σ H1 (ok.grow g1) p.2.1 _ fun w F2 H2 g2 r2 => ?_
  exact hr F2 H2 v w x y g2.fh (T1.mono g2.ff r1) r2 p.2.2 Q fun z F3 H3 g3 r3 => k z F3 H3 ((g1.trans g2).trans g3) r3
theorem pk_cmp {op : CmpOp} {a b : Expr} {r : R2} {T1 : Ty X.K α} {T2 : Ty X.K β} {T3 : Ty X.K γ} {C : α → β → Prop} {f : α → β → γ} {x : α} {y : β} {P1 P2 : Prop} (ho : OpR X (compareOp op) r) (hr : R2K r T1 T2 T3 C f)
    (ha : PK X a ρ cs T1 x P1) (hb : PK X b ρ cs T2 y P2) (hm : behindInMarks op b = false := by first | exact nomark _ | rfl) : PK X (.Compare a [op] [b] pos) ρ cs T3 (f x y) (P1 ∧ P2 ∧ C x y) := fun F σ H ok p Q k => by
  refine we (pe_cmpR ho pe_w pe_w hm) ?_
  refine ha F σ H ok p.1 _ fun v F1 H1 g1 r1 => ?_
  refine hb F1 σ H1 (ok.grow g1) p.2.1 _ fun w F2 H2 g2 r2 => ?_
  exact hr F2 H2 v w x y g2.fh (T1.mono g2.ff r1) r2 p.2.2 Q fun z F3 H3 g3 r3 => k z F3 H3 ((g1.trans g2).trans g3) r3
theorem pt_cmp' {op : CmpOp} {a b : Expr} {r : R2} {T1 : Ty X.K α} {T2 : Ty X.K β} {C : α → β → Prop} {f : α → β → Bool} {x : α} {y : β} {P1 P2 : Prop} (ho : OpR X (compareOp op) r) (hr : R2K r T1 T2 tB C f)
    (ha : PK X a ρ cs T1 x P1) (hb : PK X b ρ cs T2 y P2) (hm : behindInMarks op b = false := by first | exact nomark _ | rfl) : PTK X (.Compare a [op] [b] pos) ρ cs (f x y) (P1 ∧ P2 ∧ C x y) := fun F σ H ok p Q k => by
  refine wt (pt_cmpR ho pe_w pe_w hm) ?_
  refine ha F σ H ok p.1 _ fun v F1 H1 g1 r1 => ?_
  refine hb F1 σ H1 (ok.grow g1) p.2.1 _ fun w F2 H2 g2 r2 => ?_
  exact hr F2 H2 v w x y g2.fh (T1.mono g2.ff r1) r2 p.2.2 _ fun z F3 H3 g3 r3 => ⟨_, r3, k F3 H3 ((g1.trans g2).trans g3)⟩
/-! ### tests -/
theorem pt_val' {e : Expr} {b : Bool} {P : Prop} (h : PK X e ρ cs tB b P) (he : ∀ whole, isTrue e X.env whole = (do let v ← whole; standAt e.pos; holding [v] (truthy v)) := by intro _; rfl) : PTK X e ρ cs b P := fun F σ H ok p Q k => by
  refine wt (pt_val pe_w he) ?_
  exact h F σ H ok p _ fun v F1 H1 g1 r1 => ⟨b, r1, k F1 H1 g1⟩
theorem pt_not' {e : Expr} {b : Bool} {P : Prop} (h : PTK X e ρ cs b P) : PTK X (.UnaryOp .Not e pos) ρ cs (!b) P := fun F σ H ok p Q k => by
  refine wt (pt_not pt_w) ?_
  exact h F σ H ok p _ fun F1 H1 g1 => k F1 H1 g1
theorem pw_and1' {a : Expr} {b : Bool} {P : Prop} (h : PTK X a ρ cs b P) : PWK X (.BoolOp .And [a] pos) ρ cs b P := fun F σ H ok p Q k => ww (pw_and1 pt_w) (h F σ H ok p Q k)
theorem pw_or1' {a : Expr} {b : Bool} {P : Prop} (h : PTK X a ρ cs b P) : PWK X (.BoolOp .Or [a] pos) ρ cs b P := fun F σ H ok p Q k => ww (pw_or1 pt_w) (h F σ H ok p Q k)
theorem pw_and' {a b : Expr} {rest : List Expr} {x y : Bool} {P1 P2 : Prop} (ha : PTK X a ρ cs x P1) (hb : PWK X (.BoolOp .And (b :: rest) pos) ρ cs y P2) : PWK X (.BoolOp .And (a :: b :: rest) pos) ρ cs (x && y) (P1 ∧ (x = true → P2)) := fun F σ H ok p Q k => by
  refine ww (pw_and pt_w pw_w) ?_
  refine ha F σ H ok p.1 _ fun F1 H1 g1 => ?_
  cases x with
  | true => exact (if_pos rfl).mpr (hb F1 σ H1 (ok.grow g1) (p.2 rfl) Q fun F2 H2 g2 => k F2 H2 (g1.trans g2))
  | false => exact (if_neg Bool.false_ne_true).mpr (k F1 H1 g1)
theorem pw_or' {a b : Expr} {rest : List Expr} {x y : Bool} {P1 P2 : Prop} (ha : PTK X a ρ cs x P1) (hb : PWK X (.BoolOp .Or (b :: rest) pos) ρ cs y P2) : PWK X (.BoolOp .Or (a :: b :: rest) pos) ρ cs (x || y) (P1 ∧ (x = false → P2)) := fun F σ H ok p Q k => by
  refine ww (pw_or pt_w pw_w) ?_
  refine ha F σ H ok p.1 _ fun F1 H1 g1 => ?_
  cases x with
  | false => exact (if_neg Bool.false_ne_true).mpr (hb F1 σ H1 (ok.grow g1) (p.2 rfl) Q fun F2 H2 g2 => k F2 H2 (g1.trans g2))
  | true => exact (if_pos rfl).mpr (k F1 H1 g1)
theorem PWK.pt {e : Expr} {b : Bool} {P : Prop} (h : PWK X e ρ cs b P) : PTK X e ρ cs b P := fun F σ H ok p Q k => wt pw_w.pt (h F σ H ok p Q k)
/-! ### as values -/
theorem pk_one {a : Expr} {op} {T : Ty X.K α} {x : α} {P : Prop} (h : PK X a ρ cs T x P) : PK X (.BoolOp op [a] pos) ρ cs T x P := fun F σ H ok p Q k => we (pe_one pe_w) (h F σ H ok p Q k)
theorem pk_and {a b : Expr} {rest : List Expr} {x y : Bool} {P1 P2 : Prop} (ha : PK X a ρ cs tB x P1) (hb : PK X (.BoolOp .And (b :: rest) pos) ρ cs tB y P2) : PK X (.BoolOp .And (a :: b :: rest) pos) ρ cs tB (x && y) (P1 ∧ (x = true → P2)) := fun F σ H ok p Q k => by
  refine we (pe_and pe_w pe_w) ?_
  refine ha F σ H ok p.1 _ fun v F1 H1 g1 r1 => ⟨x, r1, ?_⟩
  cases x with
  | true => exact (if_pos rfl).mpr (hb F1 σ H1 (ok.grow g1) (p.2 rfl) Q fun w F2 H2 g2 r2 => k w F2 H2 (g1.trans g2) r2)
  | false => exact (if_neg Bool.false_ne_true).mpr (k _ F1 H1 g1 rfl)
theorem pk_or {a b : Expr} {rest : List Expr} {x y : Bool} {P1 P2 : Prop} (ha : PK X a ρ cs tB x P1) (hb : PK X (.BoolOp .Or (b :: rest) pos) ρ cs tB y P2) : PK X (.BoolOp .Or (a :: b :: rest) pos) ρ cs tB (x || y) (P1 ∧ (x = false → P2)) := fun F σ H ok p Q k => by
  refine we (pe_or pe_w pe_w) ?_
  refine ha F σ H ok p.1 _ fun v F1 H1 g1 r1 => ⟨x, r1, ?_⟩
  cases x with
  | false => exact (if_neg Bool.false_ne_true).mpr (hb F1 σ H1 (ok.grow g1) (p.2 rfl) Q fun w F2 H2 g2 r2 => k w F2 H2 (g1.trans g2) r2)
  | true => exact (if_pos rfl).mpr (k _ F1 H1 g1 rfl)
/-! ### argument lists, displays -/
theorem pa_1 {e : Expr} {T : Ty X.K α} {x : α} {P : Prop} (h : PK X e ρ cs T x P) (hs : starEach (e :: []) X.env = (false, eval e X.env) :: starEach [] X.env := by rfl) : PAK X [e] ρ cs (ts1 T) x P := fun F σ H ok p Q k => by
  refine wa (pa_cons pe_w pa_nil hs) ?_
  exact h F σ H ok p _ fun v F1 H1 g1 r1 => k [v] F1 H1 g1 ⟨v, rfl, r1⟩
theorem pa_C {e : Expr} {es : List Expr} {T : Ty X.K α} {Ts : Tys X.K β} {x : α} {y : β} {P1 P2 : Prop} (h : PK X e ρ cs T x P1) (hr : PAK X es ρ cs Ts y P2) (hs : starEach (e :: es) X.env = (false, eval e X.env) :: starEach es X.env := by rfl) :
    PAK X (e :: es) ρ cs (tsC T Ts) (x, y) (P1 ∧ P2) := fun F σ H ok p Q k => by
  refine wa (pa_cons pe_w pa_w hs) ?_
  refine h F σ H ok p.1 _ fun v F1 H1 g1 r1 => ?_
  exact hr F1 σ H1 (ok.grow g1) p.2 _ fun w F2 H2 g2 r2 => k (v :: w) F2 H2 (g1.trans g2) ⟨v, w, rfl, T.mono g2.ff r1, r2⟩
/-- of one type, as a list -/
def tsL {K : PySem.W.Frag} (T : Ty K α) : Tys K (List α) := ⟨fun F vs xs => Rl T F vs xs, fun e h => h.mono e⟩
theorem pl_0 {T : Ty X.K α} : PAK X [] ρ cs (tsL T) [] True := fun F σ H ok _ Q k => wa pa_nil (k [] F H (Grow.refl ok.same) .nil)
theorem pl_C {e : Expr} {es : List Expr} {T : Ty X.K α} {x : α} {y : List α} {P1 P2 : Prop} (h : PK X e ρ cs T x P1) (hr : PAK X es ρ cs (tsL T) y P2) (hs : starEach (e :: es) X.env = (false, eval e X.env) :: starEach es X.env := by rfl) :
    PAK X (e :: es) ρ cs (tsL T) (x :: y) (P1 ∧ P2) := fun F σ H ok p Q k => by
  refine wa (pa_cons pe_w pa_w hs) ?_
  refine h F σ H ok p.1 _ fun v F1 H1 g1 r1 => ?_
  exact hr F1 σ H1 (ok.grow g1) p.2 _ fun w F2 H2 g2 r2 => k (v :: w) F2 H2 (g1.trans g2) (.cons (T.mono g2.ff r1) r2)
theorem Rl.length {K : PySem.W.Frag} {T : Ty K α} {F : Hp} {vs : List V} {xs : List α} (h : Rl T F vs xs) : vs.length = xs.length := Paired.length h
theorem pk_tup {es : List Expr} {x1} {Ts : Tys X.K α} {x : α} {P : Prop} (h : PAK X es ρ cs Ts x P) (hl : ∀ F vs, Ts.rep F vs x → vs.length ≤ 1000) : PK X (.Tuple es x1 pos) ρ cs (tT Ts) x P := fun F σ H ok p Q k => by
  refine we (pe_tup pa_w) ?_
  refine h F σ H ok p _ fun vs F1 H1 g1 r1 => ⟨Nat.le_trans (hl F1 vs r1) (by decide), fun q hq => ?_⟩
  have g2 := grow_new g1.fh hq (.tup vs)
  exact k _ _ _ (g1.trans g2) ⟨q, vs, rfl, upd_same, Ts.mono g2.ff r1⟩
theorem pk_tupU {es : List Expr} {x1} {T : Ty X.K α} {x : List α} {P : Prop} (h : PAK X es ρ cs (tsL T) x P) (hl : x.length ≤ 1000) : PK X (.Tuple es x1 pos) ρ cs (tU T) x P := fun F σ H ok p Q k => by
  refine we (pe_tup pa_w) ?_
  refine h F σ H ok p _ fun vs F1 H1 g1 r1 => ?_
  have hz : vs.length ≤ sizeLine := Nat.le_trans (by rw [Rl.length r1]; exact hl) (by decide)
  refine ⟨hz, fun q hq => ?_⟩
  have g2 := grow_new g1.fh hq (.tup vs)
  exact k _ _ _ (g1.trans g2) ⟨q, vs, rfl, .inl upd_same, Rl.mono g2.ff r1, hz⟩
theorem len1 {K : PySem.W.Frag} {T : Ty K α} {n : Nat} : ∀ F vs (x : α), (ts1 T).rep F vs x → vs.length ≤ n + 1 := fun F vs x ⟨v, e, _⟩ => by subst e; exact Nat.succ_le_succ (Nat.zero_le n)
theorem lenC {K : PySem.W.Frag} {T : Ty K α} {Ts : Tys K β} {n : Nat} (h : ∀ F vs (x : β), Ts.rep F vs x → vs.length ≤ n) : ∀ F vs (x : α × β), (tsC T Ts).rep F vs x → vs.length ≤ n + 1 := fun F vs x ⟨v, r, e, _, q⟩ => by subst e; exact Nat.succ_le_succ (h F r x.2 q)
/-! ### built-in functions -/
def RCK {K : PySem.W.Frag} (r : List V → Hp → VK → Prop) (Ts : Tys K α) (T3 : Ty K γ) (C : α → Prop) (f : α → γ) : Prop :=
  ∀ F H vs x, Same F H → Ts.rep F vs x → C x → ∀ Q : VK, (∀ z F' H', Grow F H F' H' → T3.rep F' z (f x) → Q z H') → r vs H Q
def yes1 : α → Prop := fun _ => True
theorem pk_cb {nm : Str} {p : Pos} {e : Expr} {es : List Expr} {id : String} {r : List V → Hp → VK → Prop} {Ts : Tys X.K α} {T3 : Ty X.K γ} {C : α → Prop} {f : α → γ} {x : α} {P : Prop} (hc : CallR X (.builtin id) r) (hm : X.mg nm = none) (hv : bootBuiltins nm = some (.builtin id)) (hr : RCK r Ts T3 C f)
    (ha : PAK X (e :: es) ρ cs Ts x P) (hg : Gl X nm := by rfl) (hn : nm ≠ "__name__" := by decide) (hdb : (nm == ("__debug__" : Str)) = false := by decide)
    (he : starEach (e :: es) X.env = (false, eval e X.env) :: starEach es X.env := by rfl) (hpl : (backTo pos (starEach es X.env)).any (·.1) = false := by rfl) : PK X (.Call (.Name nm p) (e :: es) [] pos) ρ cs T3 (f x) (P ∧ C x) := fun F σ H ok q Q k => by
  refine we (pe_callB hc hg hm hv pa_w hn hdb he hpl) ?_
  refine ha F σ H ok q.1 _ fun vs F1 H1 g1 r1 => ?_
  exact hr F1 H1 vs x g1.fh r1 q.2 Q fun z F2 H2 g2 r2 => k z F2 H2 (g1.trans g2) r2
section
variable {K : PySem.W.Frag}
def rLenQ (K : PySem.W.Frag) : List V → Hp → VK → Prop := fun xs H Q => ∃ p ys, xs = [.ref p] ∧ (SqL K H p ys ∨ SqT K H p ys) ∧ Q (.int ys.length) H
end
theorem cr_lenQ : CallR X (.builtin "len") (rLenQ X.K) := call_len_seq
/-! ### items -/
def pyIx [Inhabited α] (xs : List α) (i : Int) : α := (atI xs i).getD default
def IxOk (xs : List α) (i : Int) : Prop := -(xs.length : Int) ≤ i ∧ i < xs.length
theorem rl_atI {K : PySem.W.Frag} [Inhabited α] {T : Ty K α} {F : Hp} {vs : List V} {xs : List α} {i : Int} (h : Rl T F vs xs) (hi : IxOk xs i) : ∃ v, atI vs i = some v ∧ T.rep F v (pyIx xs i) := by
  have hl := Rl.length h
  unfold pyIx atI
  rw [hl]
  obtain ⟨h1, h2⟩ := hi
  have get : ∀ {ws : List V} {ys : List α} {j : Nat}, Rl T F ws ys → j < ys.length → ∃ v, ws[j]? = some v ∧ T.rep F v ((ys[j]?).getD default) := by
    intro ws ys j hh
    induction hh generalizing j with
    | nil => intro hj; exact absurd hj (Nat.not_lt_zero _)
    | cons r t ih =>
      intro hj
      cases j with
      | zero => exact ⟨_, rfl, r⟩
      | succ j =>
        obtain ⟨v, e, q⟩ := ih (Nat.lt_of_succ_lt_succ hj)
        exact ⟨v, by simpa using e, by simpa using q⟩
  by_cases h0 : 0 ≤ i
  · have e : ixN xs.length i = some i.toNat := by unfold ixN; rw [if_pos h0, if_pos h2]
    rw [e]
    exact get h (by omega)
  · have e : ixN xs.length i = some (i + xs.length).toNat := by unfold ixN; rw [if_neg h0, if_pos h1]
    rw [e]
    exact get h (by omega)
theorem pk_ixU [Inhabited α] {a b : Expr} {T : Ty X.K α} {xs : List α} {i : Int} {P1 P2 : Prop} (ha : PK X a ρ cs (tU T) xs P1) (hb : PK X b ρ cs tI i P2) (hs : PlainIx b := by exact fun _ _ => rfl) : PK X (.Subscript a b pos) ρ cs T (pyIx xs i) (P1 ∧ P2 ∧ IxOk xs i) := fun F σ H ok p Q k => by
  refine we (pe_ix ix_tup pe_w pe_w hs) ?_
  refine ha F σ H ok p.1 _ fun v F1 H1 g1 ⟨q, vs, e1, hq, r, z⟩ => ?_
  refine hb F1 σ H1 (ok.grow g1) p.2.1 _ fun w F2 H2 g2 r2 => ?_
  obtain ⟨u, hu, ru⟩ := rl_atI (Rl.mono g2.ff r) p.2.2
  exact ⟨q, vs, i, u, e1, r2, .inl (same_rd (g2.ff.trans g2.fh) hq), hu, k u F2 H2 (g1.trans g2) ru⟩
end
end MD
namespace MD
open PySem PySem.Spec PyProof.Rows L2
/-! ### contracts -/
structure Con (K : PySem.W.Frag) (A R γ : Type) where
  ins : A → List (Slot K)
  cin : A → List (Cell K)
  wp : A → (R → Prop) → (Exn K → Prop) → Prop
  T : Ty K γ
  rv : R → γ
  cout : A → R → List (Cell K)
  mono : ∀ a φ φ' ε ε', (∀ r, φ r → φ' r) → (∀ e, ε e → ε' e) → wp a φ ε → wp a φ' ε'
def Con.sp {K : PySem.W.Frag} {A R γ : Type} (C : Con K A R γ) : Sp := fun vs H Q E => ∃ (a : A) (F : Hp), Prd (fun s v => Slot.ok F s (some v)) (C.ins a) vs ∧ Same F H ∧
  (∀ c ∈ C.cin a, F c.a = none ∧ ∃ o, H c.a = some o ∧ c.ck.rep F o) ∧ ((C.cin a).map Cell.a).Nodup ∧
  C.wp a (fun r => ∀ v F' H', Mv (C.cin a) F H (C.cout a r) F' H' → C.T.rep F' v (C.rv r) → Q v H') (fun ex => ∀ cls d F' H', Mv (C.cin a) F H (C.cin a) F' H' → ExnRep F' ex cls d → E cls d H')
/-- a function of frozen data: where pre holds it is f -/
def Con.fn {K : PySem.W.Frag} {A γ : Type} (ins : A → List (Slot K)) (T : Ty K γ) (pre : A → Prop) (f : A → γ) : Con K A γ γ where
  ins := ins
  cin := fun _ => []
  wp := fun a φ _ => pre a ∧ ∀ r, r = f a → φ r
  T := T
  rv := fun r => r
  cout := fun _ _ => []
  mono := fun _ _ _ _ _ h _ w => ⟨w.1, fun r e => h r (w.2 r e)⟩
section
variable {P : Program} {w : World} {K : PySem.W.Frag} {mg : Str → Option Value} {base : Heap} {A R γ : Type}
theorem Prd.start {F : Hp} {n : Nat} : ∀ {ss : List (Slot K)} {vs : List V}, Prd (fun s v => Slot.ok F s (some v)) ss vs → Prd (Slot.ok F) (ss ++ List.replicate n .un) (vs.map some ++ List.replicate n none)
  | _, _, .cons r t => .cons r (Prd.start t)
  | _, _, .nil => by
    show Prd _ (List.replicate n Slot.un) (List.replicate n none)
    induction n with
    | zero => exact .nil
    | succ n ih => exact .cons trivial ih
/-- what a return is to reach -/
def retD (C : Con K A R γ) (a : A) (B : Hb K) (φ : R → Prop) : Ends where
  nx := fun _ H' => ∃ r F', Mv B.cin B.F0 B.H0 (C.cout a r) F' H' ∧ C.T.rep F' .non (C.rv r) ∧ φ r
  rt := fun v H' => ∃ r F', Mv B.cin B.F0 B.H0 (C.cout a r) F' H' ∧ C.T.rep F' v (C.rv r) ∧ φ r
theorem PSs.ends {X : Cx} {st : List Stmt} {D D' : Ends} {σ : L2.St} {H : Hp} (hn : ∀ σ H, D.nx σ H → D'.nx σ H) (hr : ∀ v H, D.rt v H → D'.rt v H) (hb : ∀ σ H, D.bk σ H → D'.bk σ H) (hc : ∀ σ H, D.ct σ H → D'.ct σ H) (h : WB X st D σ H) : WB X st D' σ H :=
  fun pins s I => thn (h pins s I) fun f s' q => by
    cases f with
    | next => obtain ⟨σ', H', I', q⟩ := q; exact ⟨σ', H', I', hn _ _ q⟩
    | brk => obtain ⟨σ', H', I', q⟩ := q; exact ⟨σ', H', I', hb _ _ q⟩
    | cont => obtain ⟨σ', H', I', q⟩ := q; exact ⟨σ', H', I', hc _ _ q⟩
    | ret u => obtain ⟨v, σ', H', I', r, q⟩ := q; exact ⟨v, σ', H', I', r, hr _ _ q⟩
/-- a def keeps its contract, by its body -/
theorem fn_con {x qual : Str} {st : Stmt} {f : Addr} {fd : FuncData} {N ps : List Str} {k : Nat} (C : Con K A R γ) (F : Fun K x qual st f fd) (S : FnScope N ps (defScope st)) (hl : ∀ a, (C.ins a).length = ps.length)
    (body : ∀ (cdv : Value) (Ar : Around) (outer : List Env) (s : Shared) (H : Hp) (E : XK) (F0 : Hp) (a : A) (φ : R → Prop) (ε : Exn K → Prop), Room k (Ar.deeper (envOfC qual (defScope st) s.heap.objs.size f cdv)) →
      PassesOwn (model P w) (Ar.deeper (envOfC qual (defScope st) s.heap.objs.size f cdv)) (envOfC qual (defScope st) s.heap.objs.size f cdv) (cxOf (L2.CX P w) P w K mg base N qual (defScope st) f cdv Ar outer s H E).xe →
      SK (cxOf (L2.CX P w) P w K mg base N qual (defScope st) f cdv Ar outer s H E) ⟨F0, H, C.cin a⟩ ⟨C.cin a, ε⟩ F0 (defBody st) (C.ins a ++ List.replicate (N.length - ps.length) .un) (C.cin a) (retD C a ⟨F0, H, C.cin a⟩ φ) (C.wp a φ ε)) :
    FnOk P w K mg base (L2.CX P w) (k + 1) f fd ps C.sp := by
  refine F.okX S (fun vs H Q E ⟨a, F, h, _⟩ => by rw [← h.length]; exact hl a) (fun cdv Ar outer s H vs Q E hr h => ?_)
  obtain ⟨a, F0, hv, hs, hc, hn, hw⟩ := h
  refine ⟨_, pss_w, ?_⟩
  have e : vs.length = ps.length := by rw [← hv.length]; exact hl a
  have Bo : Mv (C.cin a) F0 H (C.cin a) F0 H := ⟨Same.refl _, hs, fun b h1 h2 => absurd h1 h2, fun b o e _ => e, hc, hn, fun c hc => .inl ⟨c, hc, rfl⟩, fun c hcm z => by
    obtain ⟨_, o, e, _⟩ := hc c hcm
    rw [e] at z; cases z⟩
  have hb := body cdv Ar outer s H E F0 a _ _ hr (passes_of rfl) F0 (L2.start N vs) H ⟨by
    unfold L2.start
    rw [e]
    exact hv.start, Bo, Same.refl _⟩ hw (fun cls d _ H => E cls d H) (takes_of rfl rfl rfl rfl) (fun ex cls d cs2 F' H' σ' mv kp r ep => ep cls d F' H' ⟨mv.ff, mv.fh, mv.fr, mv.kp, fun c hc => mv.cell c (kp c hc), hn, fun c hc => .inl ⟨c, hc, rfl⟩, mv.st⟩ r)
  refine PSs.ends ?_ ?_ ?_ ?_ hb
  · intro _ H' ⟨r, F', m, t, q⟩
    exact q .non F' H' m t
  · intro v H' ⟨r, F', m, t, q⟩
    exact q v F' H' m t
  · exact fun _ _ z => z
  · exact fun _ _ z => z
/-- the condition -/
theorem SK.vc {X : Cx} {B : Hb X.K} {Y : Ec X.K} {st : List Stmt} {ρ : List (Slot X.K)} {cs : List (Cell X.K)} {D : Ends} {φ ψ : Prop} {fl : Hp} (h : SK X B Y fl st ρ cs D φ) (v : ψ → φ) : SK X B Y fl st ρ cs D ψ := fun F σ H ok p => h F σ H ok (v p)
end
/-! ### calls -/
section
variable {X : Cx} {Y : Ec X.K} {ρ : List (Slot X.K)} {cs : List (Cell X.K)} {A R α γ μ : Type} {pos : Pos}
/-- a pure function's call -/
theorem pk_call {k : Nat} {f : Addr} {fd : FuncData} {ps : List Str} {nm : Str} {p : Pos} {e : Expr} {es : List Expr} {ins : A → List (Slot X.K)} {T : Ty X.K γ} {pre : A → Prop} {g : A → γ} {β : Type} {Ts : Tys X.K β} {x : β} {Pa : Prop} (a : A)
    (F : FnOk X.prog X.w X.K X.mg X.base (L2.CX X.prog X.w) k f fd ps (Con.fn ins T pre g).sp) (hr : Room k X.A) (hm : X.mg nm = some (.ref f)) (hk : PySem.W.keepIn X.K (.ref f) = true) (hb : Binds X.K fd ps [])
    (ha : PAK X (e :: es) ρ cs Ts x Pa) (hi : ∀ F vs, Ts.rep F vs x → Prd (fun s v => Slot.ok F s (some v)) (ins a) vs) (hg : Gl X nm := by rfl)
    (hdb : (nm == ("__debug__" : Str)) = false := by decide) (he : starEach (e :: es) X.env = (false, eval e X.env) :: starEach es X.env := by rfl) (hpl : (backTo pos (starEach es X.env)).any (·.1) = false := by rfl) :
    PK X (.Call (.Name nm p) (e :: es) [] pos) ρ cs T (g a) (Pa ∧ pre a) := fun F0 σ H ok q Q kk => by
  refine we (pe_call F hr hg hm hk hb .nil (E := E0) (passL) pa_w hdb he hpl) ?_
  refine ha F0 σ H ok q.1 _ fun vs F1 H1 g1 r1 => ?_
  refine ⟨a, F1, by rw [List.append_nil]; exact hi F1 vs r1, g1.fh, fun c hc => absurd hc (by simp [Con.fn]), by simp [Con.fn], q.2, fun r er v F2 H2 m rr => ?_⟩
  subst er
  exact kk v F2 H2 (g1.trans ⟨m.ff, m.fh, fun b o e => m.kp b o e fun c hc => absurd hc (by simp [Con.fn]), m.fr⟩) rr
end
end MD
namespace MD
open PySem PySem.Spec PyProof.Rows L2
/-! ### statements -/
section
variable {X : Cx} {fl : Hp} {B : Hb X.K} {Y : Ec X.K} {ρ : List (Slot X.K)} {cs : List (Cell X.K)} {α β γ μ : Type} {pos : Pos} {rest : List Stmt} {D : Ends} {e : Expr}
/-- the exceptions' wish within -/
theorem xh_of {F H : Hp} {σ : L2.St} {W : WX} (ok : Ok B fl ρ cs F σ H) (tk : Takes X W) (hx : ∀ ex cls d cs2 F' H' σ', Mv B.cin B.F0 B.H0 cs2 F' H' → (∀ c ∈ Y.kp, c ∈ cs2) → ExnRep F' ex cls d → Y.ε ex → W cls d σ' H') : Xh X Y cs F σ H :=
  ⟨W, tk, fun ex cls d cs2 F' H' m kp r ep => hx ex cls d cs2 F' H' σ (ok.mv.trans m) kp r ep⟩
theorem sk_set {i : Nat} {nm : Str} {pos' : Pos} {T : Ty X.K α} {x : α} {P : Prop} {φ : α → Prop} (hN : X.N.Nodup) (he : PK X e ρ cs T x P) (k : ∀ z, SK X B Y fl rest (ρ.set i (.val T z)) cs D (φ z)) (hi : X.N[i]? = some nm := by rfl) (hx : Loc X.env.scope nm := by first | exact Or.inl rfl | exact Or.inr rfl)
    (hs : swapsWith e (some (.Name nm pos')) pos.line X.env = pure false := by rfl) (hf : X.fn nm = true ∨ X.env.scope.names.lookup nm = some .local := by first | exact .inl rfl | exact .inr rfl) :
    SK X B Y fl (.Assign [.Name nm pos'] e pos :: rest) ρ cs D (P ∧ ∀ z, z = x → φ z) := fun F σ H ok p W tk hx' => by
  refine wb (pss_cons (ps_set hN hi hx pe_w hs hf) pss_w) ?_
  refine he F σ H ok.c.w p.1 _ fun v F' H' g r => ?_
  have ok1 := ok.to (ok.c.grow g)
  exact k x F' _ H' (ok1.set i r) (p.2 x rfl) W tk hx'
theorem sk_setE {i : Nat} {nm : Str} {pos' : Pos} {T : Ty X.K α} {vl : μ → α} {cs' : μ → List (Cell X.K)} {M : (μ → Prop) → Prop} {φ : μ → α → Prop} (hN : X.N.Nodup) (he : EK X Y e ρ cs T vl cs' M) (k : ∀ y z, SK X B Y fl rest (ρ.set i (.val T z)) (cs' y) D (φ y z)) (hi : X.N[i]? = some nm := by rfl)
    (hx : Loc X.env.scope nm := by first | exact Or.inl rfl | exact Or.inr rfl)
    (hs : swapsWith e (some (.Name nm pos')) pos.line X.env = pure false := by rfl) (hf : X.fn nm = true ∨ X.env.scope.names.lookup nm = some .local := by first | exact .inl rfl | exact .inr rfl) :
    SK X B Y fl (.Assign [.Name nm pos'] e pos :: rest) ρ cs D (M fun y => ∀ z, z = vl y → φ y z) := fun F σ H ok p W tk hx' => by
  refine wb (pss_cons (ps_set hN hi hx pe_w hs hf) pss_w) ?_
  refine he F σ H ok.c (xh_of ok tk hx') _ p _ fun y v F' H' m r q => ?_
  exact k y (vl y) F' _ H' ((ok.to m).set i r) (q _ rfl) W tk hx'
theorem sk_expr {T : Ty X.K α} {vl : μ → α} {cs' : μ → List (Cell X.K)} {M : (μ → Prop) → Prop} {φ : μ → Prop} (he : EK X Y e ρ cs T vl cs' M) (k : ∀ y, SK X B Y fl rest ρ (cs' y) D (φ y)) (hs : swapsWith e none pos.line X.env = pure false := by rfl) :
    SK X B Y fl (.Expr e pos :: rest) ρ cs D (M φ) := fun F σ H ok p W tk hx' => by
  refine wb (pss_cons (ps_expr pe_w hs) pss_w) ?_
  refine he F σ H ok.c (xh_of ok tk hx') _ p _ fun y v F' H' m r q => ?_
  exact k y F' _ H' (ok.to m) q W tk hx'
/-- one statement -/
def SK1 (X : Cx) (B : Hb X.K) (Y : Ec X.K) (fl : Hp) (st : Stmt) (ρ : List (Slot X.K)) (cs : List (Cell X.K)) (D : Ends) (φ : Prop) : Prop :=
  ∀ F σ H, Ok B fl ρ cs F σ H → φ → ∀ W, Takes X W → (∀ ex cls d cs2 F' H' σ', Mv B.cin B.F0 B.H0 cs2 F' H' → (∀ c ∈ Y.kp, c ∈ cs2) → ExnRep F' ex cls d → Y.ε ex → W cls d σ' H') → WS X st D σ H
/-- the rest behind each end -/
theorem sk_seq {st : Stmt} {φ : Prop} (h : SK1 X B Y fl st ρ cs { D with nx := WB X rest D } φ) : SK X B Y fl (st :: rest) ρ cs D φ := fun F σ H ok p W tk hx' => wb (pss_cons ps_w pss_w) (h F σ H ok p W tk hx')
theorem sk_if1 {c : Expr} {a b : List Stmt} {bv : Bool} {P φ1 φ2 : Prop} (hc : PTK X c ρ cs bv P) (ha : SK X B Y fl a ρ cs D φ1) (hb : SK X B Y fl b ρ cs D φ2) :
    SK1 X B Y fl (.If c a b pos) ρ cs D (P ∧ (bv = true → φ1) ∧ (bv = false → φ2)) := fun F σ H ok p W tk hx' => by
  refine ws (ps_if pt_w pss_w pss_w) ?_
  refine hc F σ H ok.c.w p.1 _ fun F' H' g => ?_
  have ok1 := ok.to (ok.c.grow g)
  cases bv with
  | true => exact (if_pos rfl).mpr (ha F' σ H' ok1 (p.2.1 rfl) W tk hx')
  | false => exact (if_neg Bool.false_ne_true).mpr (hb F' σ H' ok1 (p.2.2 rfl) W tk hx')
theorem sk_if1E {c : Expr} {a b : List Stmt} {vl : μ → Bool} {cs' : μ → List (Cell X.K)} {M : (μ → Prop) → Prop} {φ1 φ2 : μ → Prop} (hc : TK X Y c ρ cs vl cs' M) (ha : ∀ y, SK X B Y fl a ρ (cs' y) D (φ1 y)) (hb : ∀ y, SK X B Y fl b ρ (cs' y) D (φ2 y)) :
    SK1 X B Y fl (.If c a b pos) ρ cs D (M fun y => (vl y = true → φ1 y) ∧ (vl y = false → φ2 y)) := fun F σ H ok p W tk hx' => by
  refine ws (ps_if pt_w pss_w pss_w) ?_
  refine hc F σ H ok.c (xh_of ok tk hx') _ p _ fun y F' H' m q => ?_
  have ok1 := ok.to m
  cases hv : vl y with
  | true => exact (if_pos rfl).mpr (ha y F' σ H' ok1 (q.1 hv) W tk hx')
  | false => exact (if_neg Bool.false_ne_true).mpr (hb y F' σ H' ok1 (q.2 hv) W tk hx')
/-- one state may stand for another -/
inductive Le {K : PySem.W.Frag} : List (Slot K) → List (Slot K) → Prop
  | nil : Le [] []
  | same {s : Slot K} {a b : List (Slot K)} : Le a b → Le (s :: a) (s :: b)
  | un {s : Slot K} {a b : List (Slot K)} : Le a b → Le (s :: a) (.un :: b)
theorem Le.refl {K : PySem.W.Frag} : ∀ a : List (Slot K), Le a a
  | [] => .nil
  | _ :: a => .same (Le.refl a)
theorem Le.env {K : PySem.W.Frag} {F : Hp} : ∀ {a b : List (Slot K)} {σ : L2.St}, Le a b → Prd (Slot.ok F) a σ → Prd (Slot.ok F) b σ
  | _, _, _, .nil, .nil => .nil
  | _, _, _, .same t, .cons r q => .cons r (Le.env t q)
  | _, _, _, .un t, .cons _ q => .cons trivial (Le.env t q)
/-- a state of that form, of which R holds -/
def Mid {K : PySem.W.Frag} (B : Hb K) (fl : Hp) (ρ' : β → List (Slot K)) (cs' : β → List (Cell K)) (R : β → Prop) : L2.St → Hp → Prop := fun σ H => ∃ z F, Ok B fl (ρ' z) (cs' z) F σ H ∧ R z
/-- a statement whose ends meet in one form -/
theorem sk_join {st : Stmt} (ρ' : β → List (Slot X.K)) (cs' : β → List (Cell X.K)) {ψ : (β → Prop) → Prop} {φ : β → Prop} (h : ∀ R, SK1 X B Y fl st ρ cs { D with nx := Mid B fl ρ' cs' R } (ψ R)) (k : ∀ z, SK X B Y fl rest (ρ' z) (cs' z) D (φ z)) :
    SK X B Y fl (st :: rest) ρ cs D (∃ R, ψ R ∧ ∀ z, R z → φ z) := fun F σ H ok p W tk hx' => by
  obtain ⟨R, p1, p2⟩ := p
  have q := h R F σ H ok p1 W tk hx'
  refine fun pins s I => ?_
  refine wpAny_execs_cons (thn (q pins s I) fun f s1 q3 => ?_)
  cases f with
  | next =>
    obtain ⟨σ', H', I', z, F', ok', r⟩ := q3
    exact k z F' σ' H' ok' (p2 z r) W tk hx' pins s1 I'
  | ret v => exact q3
  | brk => exact q3
  | cont => exact q3
/-- return -/
theorem sk_ret {A R : Type} {C : Con X.K A R γ} {a : A} {ψ : R → Prop} {n b' c' : L2.St → Hp → Prop} {x : γ} {P : Prop} {r : List Stmt} (q : R) (he : PK X e ρ cs C.T x P) (hv : C.rv q = x) (hc : C.cout a q = cs) :
    SK X B Y fl (.Return (some e) pos :: r) ρ cs { retD C a B ψ with nx := n, bk := b', ct := c' } (P ∧ ψ q) := fun F σ H ok p W tk hx' => by
  refine wb (pss_cons (ps_ret pe_w) pss_w) ?_
  refine he F σ H ok.c.w p.1 _ fun v F' H' g t => ?_
  have ok1 := ok.to (ok.c.grow g)
  subst hv
  exact ⟨q, F', by rw [hc]; exact ok1.mv, t, p.2⟩
theorem sk_retE {A R : Type} {C : Con X.K A R γ} {a : A} {ψ : R → Prop} {n b' c' : L2.St → Hp → Prop} {vl : μ → γ} {cs' : μ → List (Cell X.K)} {M : (μ → Prop) → Prop} {r : List Stmt} (q : μ → R) (he : EK X Y e ρ cs C.T vl cs' M) (hv : ∀ y, C.rv (q y) = vl y) (hc : ∀ y, C.cout a (q y) = cs' y) :
    SK X B Y fl (.Return (some e) pos :: r) ρ cs { retD C a B ψ with nx := n, bk := b', ct := c' } (M fun y => ψ (q y)) := fun F σ H ok p W tk hx' => by
  refine wb (pss_cons (ps_ret pe_w) pss_w) ?_
  refine he F σ H ok.c (xh_of ok tk hx') _ p _ fun y v F' H' m t h => ?_
  have ok1 := ok.to m
  refine ⟨q y, F', by rw [hc]; exact ok1.mv, ?_, h⟩
  rw [hv]
  exact t
/-! ### owned lists -/
theorem mv_upd {F H : Hp} {j : Nat} {l : Addr} {k0 k : CK X.K} {o : HO} (ok : Okc ρ cs F σ H) (hc : cs[j]? = some ⟨l, k0⟩) (hr : k.rep F o) : Mv cs F H (cs.set j ⟨l, k⟩) F (upd H l o) := by
  have hj : j < cs.length := (List.getElem?_eq_some_iff.mp hc).1
  have hm : ⟨l, k0⟩ ∈ cs := List.mem_of_getElem? hc
  have hFl := (ok.cell _ hm).1
  have map_eq : (cs.set j ⟨l, k⟩).map Cell.a = cs.map Cell.a := by
    rw [List.map_set]
    apply List.ext_getElem?
    intro n
    by_cases hn : j = n
    · subst hn
      rw [List.getElem?_set_self (by simpa using hj), List.getElem?_map, hc]
      rfl
    · rw [List.getElem?_set_ne hn]
  have others : ∀ (n : Nat) (c : Cell X.K), n ≠ j → cs[n]? = some c → c.a ≠ l := fun n c hn e z => by
    have nd := ok.nd
    have e1 : (cs.map Cell.a)[n]? = some l := by rw [List.getElem?_map, e]; exact congrArg some z
    have e2 : (cs.map Cell.a)[j]? = some l := by rw [List.getElem?_map, hc]; rfl
    obtain ⟨h1, q1⟩ := List.getElem?_eq_some_iff.mp e1
    obtain ⟨h2, q2⟩ := List.getElem?_eq_some_iff.mp e2
    exact hn ((List.getElem_inj nd).mp (q1.trans q2.symm))
  refine ⟨Same.refl F, fun b u e => ?_, fun b h1 h2 => absurd h1 h2, fun b u e n => ?_, fun c hcm => ?_, by rw [map_eq]; exact ok.nd, fun c hcm => ?_, fun c hcm z => ?_⟩
  · have : b ≠ l := fun z => by rw [z, hFl] at e; cases e
    rw [upd_ne this]; exact ok.same _ _ e
  · have : b ≠ l := fun z => n _ hm z.symm
    rw [upd_ne this]; exact e
  · obtain ⟨n, e⟩ := List.getElem?_of_mem hcm
    by_cases hn : n = j
    · subst hn
      rw [List.getElem?_set_self hj] at e
      cases e
      exact ⟨hFl, o, upd_same, hr⟩
    · rw [List.getElem?_set_ne (Ne.symm hn)] at e
      obtain ⟨n1, u, e1, r1⟩ := ok.cell c (List.mem_of_getElem? e)
      exact ⟨n1, u, by rw [upd_ne (others n c hn e)]; exact e1, r1⟩
  · obtain ⟨n, e⟩ := List.getElem?_of_mem hcm
    by_cases hn : n = j
    · subst hn
      rw [List.getElem?_set_self hj] at e
      cases e
      exact .inl ⟨_, hm, rfl⟩
    · rw [List.getElem?_set_ne (Ne.symm hn)] at e
      exact .inl ⟨c, List.mem_of_getElem? e, rfl⟩
  · by_cases hl : c.a = l
    · rw [hl, upd_same] at z; cases z
    · rw [upd_ne hl] at z
      obtain ⟨_, u, e1, _⟩ := ok.cell c hcm
      rw [e1] at z; cases z
theorem Rl.set {K : PySem.W.Frag} {T : Ty K α} {F : Hp} {v : V} {x : α} : ∀ {vs : List V} {xs : List α} {i : Nat}, Rl T F vs xs → T.rep F v x → Rl T F (vs.set i v) (xs.set i x)
  | _, _, _, .nil, _ => .nil
  | _, _, 0, .cons _ t, h => .cons h t
  | _, _, i + 1, .cons r t, h => .cons r (Rl.set (i := i) t h)
theorem Rl.append {K : PySem.W.Frag} {T : Ty K α} {F : Hp} : ∀ {vs ws : List V} {xs ys : List α}, Rl T F vs xs → Rl T F ws ys → Rl T F (vs ++ ws) (xs ++ ys)
  | _, _, _, _, .nil, h => h
  | _, _, _, _, .cons r t, h => .cons r (Rl.append t h)
def IxW (xs : List α) (i : Int) : Prop := 0 ≤ i ∧ i < xs.length
/-- l[i] = e, l an owned list, i a place -/
theorem sk_setIx {o ie : Expr} {T : Ty X.K α} {vl : μ → α} {cs' : μ → List (Cell X.K)} {M : (μ → Prop) → Prop} {l : Addr} {xs : μ → List α} {i : μ → Int} {P1 P2 : μ → Prop} {φ : μ → List α → Prop} {p1 : Pos} (j : Nat) (he : EK X Y e ρ cs T vl cs' M) (ho : ∀ y, PK X o ρ (cs' y) tR l (P1 y))
    (hi : ∀ y, PK X ie ρ (cs' y) tI (i y) (P2 y)) (hc : ∀ y, (cs' y)[j]? = some ⟨l, cL T (xs y)⟩) (k : ∀ y z, SK X B Y fl rest ρ ((cs' y).set j ⟨l, cL T z⟩) D (φ y z))
    (ha : ∀ v, assign (.Subscript o ie p1) X.env v = (do
      let ov ← holding [v] (eval o X.env)
      let iv ← holding [v, ov] (eval ie X.env)
      standAt p1
      holding [v, ov, iv] (setItem ov iv v)
      release [v, ov, iv] []) := by intro _; rfl) (hs : swapsWithSole [.Subscript o ie p1] e pos.line X.env = pure false := by rfl) (hw : swappedStores [.Subscript o ie p1] e X.env = pure none := by rfl)
    (h1 : (assignEach [.Subscript o ie p1] X.env).map (·.2) = [assign (.Subscript o ie p1) X.env] := by rfl) :
    SK X B Y fl (.Assign [.Subscript o ie p1] e pos :: rest) ρ cs D (M fun y => P1 y ∧ P2 y ∧ IxW (xs y) (i y) ∧ ∀ z, z = (xs y).set (i y).toNat (vl y) → φ y z) := fun F σ H ok p W tk hx' => by
  refine wb (pss_cons (ps_asg pe_w (pg_sub pe_w pe_w set_list ha) hs hw h1) pss_w) ?_
  refine he F σ H ok.c (xh_of ok tk hx') _ p _ fun y v F1 H1 m t q => ?_
  have ok1 := ok.to m
  refine ho y F1 σ H1 ok1.c.w q.1 _ fun v2 F2 H2 g2 r2 => ?_
  have ok2 := ok1.to (ok1.c.grow g2)
  refine hi y F2 σ H2 ok2.c.w q.2.1 _ fun v3 F3 H3 g3 r3 => ?_
  have ok3 := ok2.to (ok2.c.grow g3)
  obtain ⟨_, ob, hob, vs, e1, rl, z⟩ := ok3.c.cell _ (List.mem_of_getElem? (hc y))
  subst e1
  have hix : ixN vs.length (i y) = some (i y).toNat := by
    unfold ixN
    rw [if_pos q.2.2.1.1, if_pos (by rw [Rl.length rl]; exact q.2.2.1.2)]
  refine ⟨l, vs, i y, (i y).toNat, r2, r3, hob, hix, ?_⟩
  exact k y _ F3 σ _ (ok3.to (mv_upd (k := cL T ((xs y).set (i y).toNat (vl y))) ok3.c (hc y) ⟨_, rfl, Rl.set rl (T.mono (g2.ff.trans g3.ff) t), by rw [List.length_set]; exact z⟩)) (q.2.2.2 _ rfl) W tk hx'
/-- a method of an owned list: what it asks, what it leaves, what it gives -/
def MLK {K : PySem.W.Frag} (r : V → List V → Hp → VK → Prop) (T : Ty K α) (Ts : Tys K β) (U : Ty K γ) (C : List α → β → Prop) (f : List α → β → List α) (g : List α → β → γ) : Prop :=
  ∀ F H l vs ws x y, Same F H → H l = some (.lst vs) → Rl T F vs x → vs.length ≤ sizeLine → Ts.rep F ws y → C x y → ∀ Q : VK, (∀ v vs', Rl T F vs' (f x y) → vs'.length ≤ sizeLine → U.rep F v (g x y) → Q v (upd H l (.lst vs'))) → r (.ref l) ws H Q
theorem ek_mL {o : Expr} {es : List Expr} {name : Str} {id : String} {r : V → List V → Hp → VK → Prop} {T : Ty X.K α} {Ts : Tys X.K β} {U : Ty X.K γ} {C : List α → β → Prop} {f : List α → β → List α} {g : List α → β → γ} {vl : μ → β} {cs' : μ → List (Cell X.K)} {M : (μ → Prop) → Prop} {l : Addr} {xs : μ → List α} {P1 : Prop} {apos cpos : Pos}
    (slot : PySem.Slot "list" name id) (hty : typeOf (.builtin id) = pure (.type "method_descriptor")) (hm : MtR X id r) (hr : MLK r T Ts U C f g) (j : Nat) (ho : PK X o ρ cs tR l P1) (he : AK X Y (e :: es) ρ cs Ts vl cs' M)
    (hc : ∀ y, (cs' y)[j]? = some ⟨l, cL T (xs y)⟩) (hc0 : ∃ x0, cs[j]? = some ⟨l, cL T x0⟩)
    (hbase : attributeBase o name X.env (eval o X.env) = eval o X.env := by rfl)
    (hfew : ((backTo cpos (starEach (e :: es) X.env)).all (fun x => !x.1) && (backToKw cpos (keywordEach [] X.env)).all (fun x => x.1.isSome)
      && decide ((e :: es).length + ([] : List Keyword).length + (if ([] : List Keyword).isEmpty then 0 else 1) < 30)) = true := by rfl)
    (hline : (apos.endLine == cpos.line) = true := by rfl) (hs : starEach (e :: es) X.env = (false, eval e X.env) :: starEach es X.env := by rfl) (hplain : (backTo cpos (starEach es X.env)).any (·.1) = false := by rfl) :
    EK X Y (.Call (.Attribute o name apos) (e :: es) [] cpos) ρ cs U (fun y : μ × List α => g (xs y.1) (vl y.1)) (fun y => (cs' y.1).set j ⟨l, cL T y.2⟩) (fun φ => P1 ∧ M fun y => C (xs y) (vl y) ∧ ∀ z, z = f (xs y) (vl y) → φ (y, z)) := fun F σ H ok xh φ p Q k => by
  refine we (pe_bm PySem.F.plainAttrs_list slot hty hm pe_w pa_w hbase hfew hline hs hplain) ?_
  refine ho F σ H ok.w p.1 _ fun v0 F0 H0 g0 r0 => ?_
  have m0 := ok.grow g0
  have ok0 := ok.mv m0
  obtain ⟨x0, hc0⟩ := hc0
  obtain ⟨_, ob0, hob0, vs0, e0, _, _⟩ := ok0.cell _ (List.mem_of_getElem? hc0)
  subst e0
  cases r0
  refine ⟨.inl ⟨rfl, _, SqL.of hob0⟩, ?_⟩
  refine he F0 σ H0 ok0 (xh.mv m0) _ p.2 _ fun y ws F1 H1 m t q => ?_
  have ok1 := ok0.mv m
  obtain ⟨_, ob, hob, vs, e1, rl, z⟩ := ok1.cell _ (List.mem_of_getElem? (hc y))
  subst e1
  refine hr F1 H1 l vs ws (xs y) (vl y) m.fh hob rl z t q.1 Q fun v vs' rl' z' u => ?_
  exact k (y, f (xs y) (vl y)) v F1 _ ((m0.trans m).trans (mv_upd (k := cL T (f (xs y) (vl y))) ok1 (hc y) ⟨_, rfl, rl', z'⟩)) u (q.2 _ rfl)
theorem ek_mL0 {o : Expr} {name : Str} {id : String} {r : V → List V → Hp → VK → Prop} {T : Ty X.K α} {U : Ty X.K γ} {C : List α → Unit → Prop} {f : List α → Unit → List α} {g : List α → Unit → γ} {l : Addr} {xs : List α} {P1 : Prop} {apos cpos : Pos}
    (slot : PySem.Slot "list" name id) (hty : typeOf (.builtin id) = pure (.type "method_descriptor")) (hm : MtR X id r) (hr : MLK r T ts0 U C f g) (j : Nat) (ho : PK X o ρ cs tR l P1)
    (hc : cs[j]? = some ⟨l, cL T xs⟩)
    (hbase : attributeBase o name X.env (eval o X.env) = eval o X.env := by rfl) (hline : (apos.endLine == cpos.line) = true := by rfl) :
    EK X Y (.Call (.Attribute o name apos) [] [] cpos) ρ cs U (fun _ : List α => g xs ()) (fun z => cs.set j ⟨l, cL T z⟩) (fun φ => P1 ∧ C xs () ∧ ∀ z, z = f xs () → φ z) := fun F σ H ok xh φ p Q k => by
  refine we (pe_bm0 PySem.F.plainAttrs_list slot hty hm pe_w hbase hline) ?_
  refine ho F σ H ok.w p.1 _ fun v0 F0 H0 g0 r0 => ?_
  have m0 := ok.grow g0
  have ok0 := ok.mv m0
  obtain ⟨_, ob, hob, vs, e1, rl, z⟩ := ok0.cell _ (List.mem_of_getElem? hc)
  subst e1
  cases r0
  refine ⟨.inl ⟨rfl, _, SqL.of hob⟩, ?_⟩
  refine hr F0 H0 l vs [] xs () m0.fh hob rl z rfl p.2.1 Q fun v vs' rl' z' u => ?_
  exact k (f xs ()) v F0 _ (m0.trans (mv_upd (k := cL T (f xs ())) ok0 hc ⟨_, rfl, rl', z'⟩)) u (p.2.2 _ rfl)
theorem ml_append {K : PySem.W.Frag} {T : Ty K α} : MLK rAppend T (ts1 T) tN (fun xs _ => xs.length < sizeLine) (fun xs x => xs ++ [x]) (fun _ _ => ()) := fun F H l vs ws x y s h rl z ⟨w, e, t⟩ c Q k => by
  subst e
  exact ⟨l, vs, w, rfl, rfl, h, by rw [Rl.length rl]; exact c, k _ _ (Rl.append rl (.cons t .nil)) (by rw [List.length_append, List.length_singleton, Rl.length rl]; exact c) rfl⟩
end
end MD
namespace MD
open PySem PySem.Spec PyProof.Rows L2
section
variable {X : Cx} {fl : Hp} {B : Hb X.K} {Y : Ec X.K} {ρ : List (Slot X.K)} {cs : List (Cell X.K)} {α β γ μ : Type} {pos : Pos} {rest : List Stmt} {D : Ends} {e : Expr}
/-! ### targets -/
/-- a value x of type T goes to a target: G, what the names hold behind it; vs, the places that it may change -/
def GK (X : Cx) (tg : Expr) (T : Ty X.K α) (G : List (Slot X.K) → α → List (Slot X.K)) (vs : List Nat) : Prop :=
  ∀ F σ H v x ρ, Prd (Slot.ok F) ρ σ → Same F H → T.rep F v x → ∀ Q : L2.St → Hp → Prop, (∀ σ', Prd (Slot.ok F) (G ρ x) σ' → (∀ ws : List Nat, (∀ j ∈ vs, j ∈ ws) → wipe σ' ws = wipe σ ws) → Q σ' H) → WG X tg v σ H Q
def GsK (X : Cx) (tgs : List Expr) (T : Tys X.K α) (G : List (Slot X.K) → α → List (Slot X.K)) (vs : List Nat) : Prop :=
  ∀ F σ H us x ρ, Prd (Slot.ok F) ρ σ → Same F H → T.rep F us x → ∀ Q : L2.St → Hp → Prop, (∀ σ', Prd (Slot.ok F) (G ρ x) σ' → (∀ ws : List Nat, (∀ j ∈ vs, j ∈ ws) → wipe σ' ws = wipe σ ws) → Q σ' H) → WGs X tgs us σ H Q
theorem set_none_comm {σ : L2.St} {o : Option V} (i j : Nat) : (σ.set i o).set j none = if i = j then σ.set j none else (σ.set j none).set i o := by
  by_cases h : i = j
  · subst h; rw [if_pos rfl, List.set_set]
  · rw [if_neg h, List.set_comm _ _ h]
theorem wipe_set {o : Option V} {i : Nat} : ∀ (ws : List Nat) (σ : L2.St), i ∈ ws → wipe (σ.set i o) ws = wipe σ ws
  | [], _, h => absurd h (by simp)
  | j :: ws, σ, h => by
    have key : ∀ (ws : List Nat) (σ : L2.St), wipe (σ.set i o) ws = if i ∈ ws then wipe σ ws else (wipe σ ws).set i o := by
      intro ws
      induction ws with
      | nil => intro σ; simp [wipe]
      | cons j ws ih =>
        intro σ
        show (wipe (σ.set i o) ws).set j none = if i ∈ j :: ws then (wipe σ ws).set j none else ((wipe σ ws).set j none).set i o
        rw [ih σ]
        by_cases hm : i ∈ ws
        · rw [if_pos hm, if_pos (List.mem_cons_of_mem _ hm)]
        · rw [if_neg hm, set_none_comm]
          by_cases hij : i = j
          · rw [if_pos hij, if_pos (by rw [hij]; exact List.mem_cons_self)]
          · rw [if_neg hij, if_neg (by simp only [List.mem_cons, not_or]; exact ⟨hij, hm⟩)]
    rw [key, if_pos h]
theorem gk_name {T : Ty X.K α} {i : Nat} {nm : Str} (hN : X.N.Nodup) (hi : X.N[i]? = some nm := by rfl) (hx : Loc X.env.scope nm := by first | exact Or.inl rfl | exact Or.inr rfl) (hf : X.fn nm = true ∨ X.env.scope.names.lookup nm = some .local := by first | exact .inl rfl | exact .inr rfl) :
    GK X (.Name nm pos) T (fun ρ x => ρ.set i (.val T x)) [i] := fun F σ H v x ρ hρ hs r Q k => by
  refine wg (pg_name hN hi hx hf) ?_
  exact k _ (hρ.set (R := Slot.ok F) (x := .val T x) (u := some v) ⟨v, rfl, r⟩ i) fun ws hw => wipe_set ws σ (hw i (by simp))
theorem gs_C {t : Expr} {ts : List Expr} {T : Ty X.K α} {Ts : Tys X.K β} {G1 : List (Slot X.K) → α → List (Slot X.K)} {G2 : List (Slot X.K) → β → List (Slot X.K)} {v1 v2 : List Nat} (h1 : GK X t T G1 v1) (h2 : GsK X ts Ts G2 v2)
    (hs : (assignEach (t :: ts) X.env).map (·.2) = assign t X.env :: (assignEach ts X.env).map (·.2) := by rfl) : GsK X (t :: ts) (tsC T Ts) (fun ρ x => G2 (G1 ρ x.1) x.2) (v1 ++ v2) := fun F σ H us x ρ hρ hs' ⟨v, r, e, ra, rb⟩ Q k => by
  subst e
  refine wgs (pgs_cons pg_w pgs_w hs) ⟨v, r, rfl, ?_⟩
  refine h1 F σ H v x.1 ρ hρ hs' ra _ fun σ1 hρ1 w1 => ?_
  exact h2 F σ1 H r x.2 _ hρ1 hs' rb Q fun σ2 hρ2 w2 => k σ2 hρ2 fun ws hw => (w2 ws fun j hj => hw j (List.mem_append_right _ hj)).trans (w1 ws fun j hj => hw j (List.mem_append_left _ hj))
theorem gs_1 {t : Expr} {T : Ty X.K α} {G1 : List (Slot X.K) → α → List (Slot X.K)} {v1 : List Nat} (h1 : GK X t T G1 v1)
    (hs : (assignEach (t :: []) X.env).map (·.2) = assign t X.env :: (assignEach [] X.env).map (·.2) := by rfl) : GsK X [t] (ts1 T) G1 v1 := fun F σ H us x ρ hρ hs' ⟨v, e, ra⟩ Q k => by
  subst e
  refine wgs (pgs_cons pg_w pgs_nil hs) ⟨v, [], rfl, ?_⟩
  exact h1 F σ H v x ρ hρ hs' ra _ fun σ1 hρ1 w1 => ⟨rfl, k σ1 hρ1 w1⟩
theorem gk_tup {tgs : List Expr} {k0 : Nat} {Ts : Tys X.K α} {G : List (Slot X.K) → α → List (Slot X.K)} {vs : List Nat} {n : Nat} (hc : X.calm = true) (h : GsK X tgs Ts G vs) (hl : ∀ F us x, Ts.rep F us x → us.length = n)
    (hn : (assignEach tgs X.env).length = n := by rfl) (hst : (assignEach tgs X.env).findIdx? (·.1) = none := by rfl) : GK X (.Tuple tgs k0 pos) (tT Ts) G vs := fun F σ H v x ρ hρ hs ⟨a, us, e, hq, r⟩ Q k => by
  subst e
  refine wg (pg_tup hc pgs_w hn hst) ?_
  exact ⟨a, us, rfl, SqT.of (hs _ _ hq), hl F us x r, h F σ H us x ρ hρ hs r Q k⟩
theorem tl1 {K : PySem.W.Frag} {T : Ty K α} : ∀ F us (x : α), (ts1 T).rep F us x → us.length = 1 := fun F us x ⟨v, e, _⟩ => by subst e; rfl
theorem tlC {K : PySem.W.Frag} {T : Ty K α} {Ts : Tys K β} {n : Nat} (h : ∀ F us (x : β), Ts.rep F us x → us.length = n) : ∀ F us (x : α × β), (tsC T Ts).rep F us x → us.length = n + 1 := fun F us x ⟨v, r, e, _, q⟩ => by subst e; rw [List.length_cons, h F r x.2 q]
/-! ### what is walked -/
def ItOk {K : PySem.W.Frag} (T : Ty K α) (J : It) (F : Hp) (xs : List α) : Prop := ∀ (i : Nat) F1 H1, Same F F1 → Same F1 H1 →
  (∀ x, xs[i]? = some x → J.go i H1 ∧ ∀ v H2, J.yld i H1 v H2 → ∃ F2, Grow F1 H1 F2 H2 ∧ T.rep F2 v x) ∧ (xs.length ≤ i → J.stop i H1)
def IK (X : Cx) (tg iter : Expr) (ρ : List (Slot X.K)) (cs : List (Cell X.K)) (T : Ty X.K α) (xs : List α) (P : Prop) : Prop :=
  ∀ F σ H, Okw ρ cs F σ H → P → ∀ R : It → Hp → Prop, (∀ J F' H', Grow F H F' H' → ItOk T J F' xs → xs.length ≤ sizeLine → R J H') → WI X tg iter σ H R
theorem rl_get {K : PySem.W.Frag} {T : Ty K α} {F : Hp} : ∀ {vs : List V} {xs : List α} {i : Nat} {x : α}, Rl T F vs xs → xs[i]? = some x → ∃ v, vs[i]? = some v ∧ T.rep F v x
  | _, _, _, _, .nil, e => by simp at e
  | _, _, 0, _, .cons r _, e => by simp at e; subst e; exact ⟨_, rfl, r⟩
  | _, _, i + 1, x, .cons _ t, e => by
    obtain ⟨u, h1, h2⟩ := rl_get (i := i) (x := x) t (by simpa using e)
    exact ⟨u, by simpa using h1, h2⟩
theorem itl_ok {K : PySem.W.Frag} {T : Ty K α} {F : Hp} {a : Addr} {vs : List V} {xs : List α} (h : SqL K F a vs) (r : Rl T F vs xs) : ItOk T (Itl K a) F xs := fun i F1 H1 e1 e2 => by
  have hq := (e1.trans e2).seq h
  refine ⟨fun x hx => ?_, fun hi => ⟨vs, hq, by rw [Rl.length r]; exact hi⟩⟩
  obtain ⟨v, hv, rv⟩ := rl_get r hx
  refine ⟨⟨vs, v, hq, hv⟩, fun v' H2 ⟨e, y⟩ => ?_⟩
  subst e
  have := (y vs hq).symm.trans hv
  cases this
  exact ⟨F1, Grow.refl e2, T.mono e1 rv⟩
theorem itt_ok {K : PySem.W.Frag} {T : Ty K α} {F : Hp} {a : Addr} {vs : List V} {xs : List α} (h : SqT K F a vs) (r : Rl T F vs xs) : ItOk T (Itt K a) F xs := fun i F1 H1 e1 e2 => by
  have hq := same_sqT (e1.trans e2) h
  refine ⟨fun x hx => ?_, fun hi => ⟨vs, hq, by rw [Rl.length r]; exact hi⟩⟩
  obtain ⟨v, hv, rv⟩ := rl_get r hx
  refine ⟨⟨vs, v, hq, hv⟩, fun v' H2 ⟨e, y⟩ => ?_⟩
  subst e
  have := (y vs hq).symm.trans hv
  cases this
  exact ⟨F1, Grow.refl e2, T.mono e1 rv⟩
theorem ik_list {tg : Expr} {T : Ty X.K α} {xs : List α} {P : Prop} (h : PK X e ρ cs (tL T) xs P) : IK X tg e ρ cs T xs P := fun F σ H ok p R k => by
  refine wi (pi_list pe_w) ?_
  refine h F σ H ok p _ fun v F1 H1 g ⟨a, vs, e1, hq, r, z⟩ => ?_
  exact ⟨a, e1, ⟨vs, SqL.of (g.fh _ _ hq)⟩, k _ F1 H1 g (itl_ok (SqL.of hq) r) (by rw [← Rl.length r]; exact z)⟩
theorem ik_tup {tg : Expr} {T : Ty X.K α} {xs : List α} {P : Prop} (h : PK X e ρ cs (tU T) xs P) : IK X tg e ρ cs T xs P := fun F σ H ok p R k => by
  refine wi (pi_tup pe_w) ?_
  refine h F σ H ok p _ fun v F1 H1 g ⟨a, vs, e1, hq, r, z⟩ => ?_
  exact ⟨a, e1, ⟨vs, .inl (same_rd g.fh hq)⟩, k _ F1 H1 g (itt_ok (.inl hq) r) (by rw [← Rl.length r]; exact z)⟩
/-- range(a), range(a, b) as lists -/
def rng (a b : Int) : List Int := (List.range (b - a).toNat).map fun (i : Nat) => a + (i : Int)
theorem rng_get {a b : Int} {i : Nat} {x : Int} (h : (rng a b)[i]? = some x) : x = a + i ∧ i < (b - a).toNat := by
  unfold rng at h
  rw [List.getElem?_map] at h
  by_cases hi : i < (b - a).toNat
  · rw [List.getElem?_range hi] at h
    exact ⟨(Option.some.inj h).symm, hi⟩
  · rw [List.getElem?_eq_none (by rw [List.length_range]; omega)] at h
    cases h
theorem rng_length {a b : Int} : (rng a b).length = (b - a).toNat := by unfold rng; rw [List.length_map, List.length_range]
theorem itr_ok {K : PySem.W.Frag} {F : Hp} {a b : Int} : ItOk (tI (K := K)) (Itr a (b - a).toNat) F (rng a b) := fun i F1 H1 e1 e2 => by
  refine ⟨fun x hx => ?_, fun hi => by rw [rng_length] at hi; exact hi⟩
  obtain ⟨e, hi⟩ := rng_get hx
  refine ⟨hi, fun v H2 ⟨eh, ev⟩ => ?_⟩
  subst eh
  exact ⟨F1, Grow.refl e2, by rw [ev, e]; rfl⟩
theorem ik_range1 {tg a : Expr} {x : Int} {P : Prop} {p : Pos} (hm : X.mg "range" = none) (h : PK X a ρ cs tI x P) (hg : Gl X "range" := by rfl) (hs : starEach [a] X.env = [(false, eval a X.env)] := by rfl) :
    IK X tg (.Call (.Name "range" p) [a] [] pos) ρ cs tI (rng 0 x) (P ∧ -(2 ^ 62) ≤ x ∧ x ≤ 16777216) := fun F σ H ok q R k => by
  refine wi (pi_range1 hg hm (pa_cons pe_w pa_nil hs) hs) ?_
  refine h F σ H ok q.1 _ fun v F1 H1 g r => ⟨x, by cases r; rfl, q.2.1, by have := q.2.2; omega, k _ F1 H1 g ?_ (by rw [rng_length, sizeLine_eq]; have := q.2.2; omega)⟩
  have := itr_ok (K := X.K) (F := F1) (a := 0) (b := x)
  rw [show (x - 0).toNat = x.toNat by rw [Int.sub_zero]] at this
  exact this
/-- the signs of a text -/
def signs (s : Str) : List Str := s.cps.toList.map fun c => ⟨#[c]⟩
theorem strOk_sign {x : Str} {c : Nat} (h : PySem.PyData.strOk x = true) (hc : c ∈ x.cps.toList) : PySem.PyData.strOk ⟨#[c]⟩ = true := by
  unfold PySem.PyData.strOk at *
  rw [← Array.all_toList] at *
  have := List.all_eq_true.mp h c hc
  simpa using this
theorem ik_str {tg : Expr} {x : Str} {P : Prop} (h : PK X e ρ cs tS x P) : IK X tg e ρ cs tS (signs x) (P ∧ x.length ≤ sizeLine) := fun F σ H ok p R k => by
  refine wi (pi_str pe_w) ?_
  refine h F σ H ok p.1 _ fun v F1 H1 g r => ⟨x, r.1, k _ F1 H1 g (fun i F2 H2 e1 e2 => ?_) (by unfold signs; rw [List.length_map, Array.length_toList]; exact p.2)⟩
  refine ⟨fun y hy => ?_, fun hi => by unfold signs at hi; rw [List.length_map, Array.length_toList] at hi; exact hi⟩
  unfold signs at hy
  rw [List.getElem?_map] at hy
  cases q : x.cps.toList[i]? with
  | none => rw [q] at hy; cases hy
  | some c =>
    rw [q] at hy
    have hc : x.cps[i]? = some c := by simpa using q
    refine ⟨(Array.getElem?_eq_some_iff.mp hc).1, fun v2 H3 ⟨eh, c', e', ev⟩ => ?_⟩
    subst eh
    rw [hc] at e'
    cases e'
    refine ⟨F2, Grow.refl e2, ?_⟩
    have ey : (⟨#[c]⟩ : Str) = y := Option.some.inj hy
    rw [← ey]
    exact ⟨ev, strOk_sign r.2 (List.mem_of_getElem? q)⟩
/-- with its number -/
def enumF (xs : List α) : List (Int × α) := (List.range xs.length).zip xs |>.map fun p => ((p.1 : Int), p.2)
theorem enumF_get {xs : List α} {i : Nat} {y : Int × α} (h : (enumF xs)[i]? = some y) : y.1 = i ∧ xs[i]? = some y.2 := by
  unfold enumF at h
  rw [List.getElem?_map] at h
  cases q : ((List.range xs.length).zip xs)[i]? with
  | none => rw [q] at h; cases h
  | some p =>
    rw [q] at h
    have e := Option.some.inj h
    rw [List.getElem?_zip_eq_some] at q
    obtain ⟨h1, h2⟩ := q
    have hi : i < xs.length := (List.getElem?_eq_some_iff.mp h2).1
    rw [List.getElem?_range hi] at h1
    have e1 := Option.some.inj h1
    subst e
    exact ⟨by show ((p.1 : Nat) : Int) = i; rw [← e1], h2⟩
theorem enumF_length {xs : List α} : (enumF xs).length = xs.length := by
  unfold enumF
  rw [List.length_map, List.length_zip, List.length_range, Nat.min_self]
theorem grow_tup2 {K : PySem.W.Frag} {T1 : Ty K α} {T2 : Ty K β} {F H : Hp} {p : Addr} {v w : V} {x : α} {y : β} (h : Same F H) (hp : H p = none) (r1 : T1.rep F v x) (r2 : T2.rep F w y) : Grow F H (upd F p (.tup [v, w])) (upd H p (.tup [v, w])) ∧ (tP T1 T2).rep (upd F p (.tup [v, w])) (.ref p) (x, y) :=
  let g := grow_new h hp (.tup [v, w])
  ⟨g, p, _, rfl, upd_same, v, _, rfl, T1.mono g.ff r1, w, rfl, T2.mono g.ff r2⟩
theorem ik_enum {a : Expr} {T : Ty X.K α} {xs : List α} {P : Prop} {p tpos : Pos} {elts : List Expr} {kk : Nat} (hm : X.mg "enumerate" = none) (h : PK X a ρ cs (tL T) xs P) (hg : Gl X "enumerate" := by rfl) (hs : starEach [a] X.env = [(false, eval a X.env)] := by rfl) :
    IK X (.Tuple elts kk tpos) (.Call (.Name "enumerate" p) [a] [] pos) ρ cs (tP tI T) (enumF xs) P := fun F σ H ok q R k => by
  refine wi (pi_enum hg hm (pa_cons pe_w pa_nil hs) hs) ?_
  refine h F σ H ok q _ fun v F1 H1 g ⟨a, vs, e1, hq, r, z⟩ => ⟨a, vs, by rw [e1], SqL.of (g.fh _ _ hq), k _ F1 H1 g (fun i F2 H2 e1 e2 => ?_) (by rw [enumF_length, ← Rl.length r]; exact z)⟩
  have hq2 := SqL.of (K := X.K) ((e1.trans e2) _ _ hq)
  refine ⟨fun y hy => ?_, fun hi => ⟨vs, hq2, by rw [Rl.length r]; rw [enumF_length] at hi; exact hi⟩⟩
  obtain ⟨hy1, hy2⟩ := enumF_get hy
  obtain ⟨v, hv, rv⟩ := rl_get r hy2
  refine ⟨⟨vs, v, hq2, hv⟩, fun v' H3 ⟨t, x', ev, hn, eh, hx⟩ => ?_⟩
  have := (hx vs hq2).symm.trans hv
  cases this
  subst ev; subst eh
  obtain ⟨g2, r2⟩ := grow_tup2 (T1 := tI (K := X.K)) (T2 := T) (x := y.1) (y := y.2) (v := .int (i : Nat)) e2 hn (by rw [hy1]; rfl) (T.mono e1 rv)
  exact ⟨_, g2, r2⟩
theorem zip_get {xs : List α} {ys : List β} {i : Nat} {z : α × β} (h : (xs.zip ys)[i]? = some z) : xs[i]? = some z.1 ∧ ys[i]? = some z.2 := List.getElem?_zip_eq_some.mp h
theorem ik_zipL {a b : Expr} {T : Ty X.K α} {U : Ty X.K β} {xs : List α} {ys : List β} {P1 P2 : Prop} {p tpos : Pos} {elts : List Expr} {kk : Nat} (hm : X.mg "zip" = none) (h1 : PK X a ρ cs (tL T) xs P1) (h2 : PK X b ρ cs (tL U) ys P2) (hg : Gl X "zip" := by rfl)
    (hs : starEach [a, b] X.env = (false, eval a X.env) :: starEach [b] X.env := by rfl) (hs2 : starEach [b] X.env = (false, eval b X.env) :: starEach [] X.env := by rfl) (hpl : (backTo pos (starEach [b] X.env)).any (·.1) = false := by rfl) :
    IK X (.Tuple elts kk tpos) (.Call (.Name "zip" p) [a, b] [] pos) ρ cs (tP T U) (xs.zip ys) (P1 ∧ P2) := fun F σ H ok q R k => by
  refine wi (pi_zip hg hm (pa_cons pe_w (pa_cons pe_w pa_nil hs2) hs) hs hpl) ?_
  refine h1 F σ H ok q.1 _ fun v F1 H1 g1 ⟨a1, vs, e1, hq1, r1, z1⟩ => ?_
  refine h2 F1 σ H1 (ok.grow g1) q.2 _ fun w F2 H2 g2 ⟨a2, ws, e2, hq2, r2, z2⟩ => ⟨a1, a2, vs, ws, by rw [e1, e2], SqL.of ((g2.ff.trans g2.fh) _ _ hq1), SqL.of (g2.fh _ _ hq2), k _ F2 H2 (g1.trans g2) (fun i F3 H3 e3 e4 => ?_) (by rw [List.length_zip]; have := Rl.length r1; omega)⟩
  have q1 := SqL.of (K := X.K) (((g2.ff.trans e3).trans e4) _ _ hq1)
  have q2 := SqL.of (K := X.K) ((e3.trans e4) _ _ hq2)
  refine ⟨fun z hz => ?_, fun hi => ⟨vs, ws, q1, q2, by rw [Rl.length r1, Rl.length r2]; rw [List.length_zip] at hi; omega⟩⟩
  obtain ⟨hx, hy⟩ := zip_get hz
  obtain ⟨v1, hv1, rv1⟩ := rl_get r1 hx
  obtain ⟨w1, hw1, rw1⟩ := rl_get r2 hy
  refine ⟨⟨vs, ws, v1, w1, q1, q2, hv1, hw1⟩, fun v' H4 ⟨t, x', y', ev, hn, eh, hx', hy'⟩ => ?_⟩
  have t1 := (hx' vs q1).symm.trans hv1
  have t2 := (hy' ws q2).symm.trans hw1
  cases t1; cases t2
  subst ev; subst eh
  obtain ⟨g3, r3⟩ := grow_tup2 (T1 := T) (T2 := U) (x := z.1) (y := z.2) e4 hn (T.mono (g2.ff.trans e3) rv1) (U.mono e3 rw1)
  exact ⟨_, g3, r3⟩
/-! ### loops -/
/-- for tg in iter: body; z: what a turn changes -/
theorem sk_for {tg iter : Expr} {body : List Stmt} {T : Ty X.K α} {xs : List α} {P : Prop} {G : List (Slot X.K) → α → List (Slot X.K)} {vs : List Nat} (ρ' : β → List (Slot X.K)) (cs' : β → List (Cell X.K)) (z0 : β) {φb : (β → Prop) → β → α → Prop} {φr : β → Prop}
    (hp : PassesOwn (model X.prog X.w) X.A X.env X.xe) (hc : X.calm = true) (hi : IK X tg iter ρ cs T xs P) (hg : GK X tg T G vs) (hle : Le ρ (ρ' z0)) (hcs : cs = cs' z0)
    (hb : ∀ (fl' : Hp), Same fl fl' → ∀ (N : β → Prop) z x, SK X B Y fl' body (G (ρ' z) x) (cs' z) { D with nx := Mid B fl' ρ' cs' N, ct := Mid B fl' ρ' cs' N, bk := WB X rest D } (φb N z x))
    (hr : ∀ z, SK X B Y fl rest (ρ' z) (cs' z) D (φr z)) (hfo : ∀ x, foldedSetIterable iter X.env x = pure x := by intro _; rfl) :
    SK X B Y fl (.For tg iter body [] pos :: rest) ρ cs D (P ∧ ∃ I : Nat → β → Prop, I 0 z0 ∧ (∀ i z x, xs[i]? = some x → I i z → φb (I (i + 1)) z x) ∧ ∀ z, I xs.length z → φr z) := fun F σ H ok p W tk hx' => by
  subst hcs
  obtain ⟨pP, I, i0, iS, iE⟩ := p
  refine wb (pss_cons (ps_for hp hc pi_w pg_w pss_w hfo) pss_w) ?_
  refine hi F σ H ok.c.w pP _ fun J F1 H1 g it _ => ?_
  have ok1 := ok.to (ok.c.grow g)
  refine ⟨fun i m σ H => m = xs.length - i ∧ i ≤ xs.length ∧ ∃ z F2, Ok B F1 (ρ' z) (cs' z) F2 σ H ∧ I i z, ⟨xs.length, by simp, Nat.zero_le _, z0, F1, ⟨hle.env ok1.env, ok1.mv, Same.refl _⟩, i0⟩, ?_⟩
  rintro i m σ2 H2 ⟨rfl, hil, z, F2, ok2, hI⟩
  obtain ⟨go, stop⟩ := it i F2 H2 ok2.flo ok2.mv.fh
  by_cases hlt : i < xs.length
  · obtain ⟨hgo, hy⟩ := go xs[i] (List.getElem?_eq_getElem hlt)
    refine .inr ⟨hgo, Mid B F1 ρ' cs' (I (i + 1)), fun σ' H' ⟨z', F3, ok3, h3⟩ => ⟨xs.length - (i + 1), by omega, rfl, hlt, z', F3, ok3, h3⟩, fun v H3 hv => ?_⟩
    obtain ⟨F3, g3, rv⟩ := hy v H3 hv
    have ok3 := ok2.to (ok2.c.grow g3)
    refine hg F3 σ2 H3 v xs[i] (ρ' z) ok3.env ok3.mv.fh rv _ fun σ4 hρ4 _ => ?_
    exact hb F1 ok1.flo (I (i + 1)) z xs[i] F3 σ4 H3 ⟨hρ4, ok3.mv, ok3.flo⟩ (iS i z xs[i] (List.getElem?_eq_getElem hlt) hI) W tk hx'
  · exact .inl ⟨stop (by omega), hr z F2 σ2 H2 (ok2.low ok1.flo) (iE z (by rw [show xs.length = i by omega]; exact hI)) W tk hx'⟩
/-- while c: body -/
theorem sk_while {c : Expr} {body : List Stmt} (ρ' : β → List (Slot X.K)) (cs' : β → List (Cell X.K)) (z0 : β) {bv : β → Bool} {Pc : β → Prop} {φb : (β → Prop) → β → Prop} {φr : β → Prop}
    (hp : PassesOwn (model X.prog X.w) X.A X.env X.xe) (hle : Le ρ (ρ' z0)) (hcs : cs = cs' z0) (hc : ∀ z, PTK X c (ρ' z) (cs' z) (bv z) (Pc z))
    (hb : ∀ (fl' : Hp), Same fl fl' → ∀ (N : β → Prop) z, SK X B Y fl' body (ρ' z) (cs' z) { D with nx := Mid B fl' ρ' cs' N, ct := Mid B fl' ρ' cs' N, bk := WB X rest D } (φb N z))
    (hr : ∀ z, SK X B Y fl rest (ρ' z) (cs' z) D (φr z)) :
    SK X B Y fl (.While c body [] pos :: rest) ρ cs D (∃ I : Nat → β → Prop, (∃ n, I n z0) ∧ ∀ n z, I n z → Pc z ∧ (bv z = true → φb (fun z' => ∃ m, m < n ∧ I m z') z) ∧ (bv z = false → φr z)) := fun F σ H ok p W tk hx' => by
  subst hcs
  obtain ⟨I, ⟨n0, i0⟩, iS⟩ := p
  refine wb (pss_cons (ps_while hp pt_w pss_w) pss_w) ?_
  refine ⟨fun m σ H => ∃ z F2, Ok B fl (ρ' z) (cs' z) F2 σ H ∧ I m z, ⟨n0, z0, F, ⟨hle.env ok.env, ok.mv, ok.flo⟩, i0⟩, ?_⟩
  rintro m σ2 H2 ⟨z, F2, ok2, hI⟩
  obtain ⟨h1, h2, h3⟩ := iS m z hI
  refine hc z F2 σ2 H2 ok2.c.w h1 _ fun F3 H3 g => ?_
  have ok3 := ok2.to (ok2.c.grow g)
  cases hv : bv z with
  | true =>
    refine (if_pos rfl).mpr ⟨Mid B fl ρ' cs' (fun z' => ∃ k, k < m ∧ I k z'), fun σ' H' ⟨z', F4, ok4, k, hk, h4⟩ => ⟨k, hk, z', F4, ok4, h4⟩, ?_⟩
    exact hb fl (Same.refl _) _ z F3 σ2 H3 ok3 (h2 hv) W tk hx'
  | false => exact (if_neg Bool.false_ne_true).mpr (hr z F3 σ2 H3 ok3 (h3 hv) W tk hx')
end
end MD
namespace MD
open PySem PySem.Spec PyProof.Rows L2
section
variable {X : Cx} {fl : Hp} {B : Hb X.K} {Y : Ec X.K} {ρ : List (Slot X.K)} {cs : List (Cell X.K)} {α β γ μ ν : Type} {pos : Pos} {rest : List Stmt} {D : Ends} {e : Expr}
/-! ### new lists -/
/-- e makes a new list of xs -/
def NK (X : Cx) (e : Expr) (ρ : List (Slot X.K)) (cs : List (Cell X.K)) (T : Ty X.K α) (xs : List α) (P : Prop) : Prop :=
  ∀ F σ H, Okw ρ cs F σ H → P → ∀ Q : VK, (∀ a vs F' H', Grow F H F' H' → H a = none → F' a = none → H' a = some (.lst vs) → Rl T F' vs xs → vs.length ≤ sizeLine → Q (.ref a) H') → WE X e σ H Q
def NE (X : Cx) (Y : Ec X.K) (e : Expr) (ρ : List (Slot X.K)) (cs : List (Cell X.K)) {μ α : Type} (T : Ty X.K α) (vl : μ → List α) (cs' : μ → List (Cell X.K)) (M : (μ → Prop) → Prop) : Prop :=
  ∀ F σ H, Okc ρ cs F σ H → Xh X Y cs F σ H → ∀ φ : μ → Prop, M φ → ∀ Q : VK, (∀ y a vs F' H', Mv cs F H (cs' y) F' H' → H a = none → F' a = none → H' a = some (.lst vs) → (∀ c ∈ cs' y, c.a ≠ a) → Rl T F' vs (vl y) → vs.length ≤ sizeLine → φ y → Q (.ref a) H') → WE X e σ H Q
theorem frz_grow {F H F' H' : Hp} {a : Addr} {o : HO} (g : Grow F H F' H') (hH : H a = none) (hF : F' a = none) (ho : H' a = some o) : Grow F H (upd F' a o) H' where
  ff := fun b u e => by
    have : b ≠ a := fun z => by rw [z] at e; rw [g.ff _ _ e] at hF; cases hF
    rw [upd_ne this]; exact g.ff _ _ e
  fh := fun b u e => by
    by_cases z : b = a
    · subst z; rw [upd_same] at e; cases e; exact ho
    · rw [upd_ne z] at e; exact g.fh _ _ e
  hh := g.hh
  fr := fun b h1 h2 => by
    by_cases z : b = a
    · subst z; exact hH
    · rw [upd_ne z] at h2; exact g.fr b h1 h2
theorem same_upd {F : Hp} {a : Addr} {o : HO} (h : F a = none) : Same F (upd F a o) := fun b u e => by
  have : b ≠ a := fun z => by rw [z, h] at e; cases e
  rw [upd_ne this]; exact e
theorem NK.pk {T : Ty X.K α} {xs : List α} {P : Prop} (h : NK X e ρ cs T xs P) : PK X e ρ cs (tL T) xs P := fun F σ H ok p Q k =>
  h F σ H ok p Q fun a vs F' H' g hH hF ho r z => k _ _ _ (frz_grow g hH hF ho) ⟨a, vs, rfl, upd_same, r.mono (same_upd hF), z⟩
theorem NK.ne {T : Ty X.K α} {xs : List α} {P : Prop} (h : NK X e ρ cs T xs P) : NE X Y e ρ cs T (fun _ : Unit => xs) (fun _ => cs) (fun φ => P ∧ φ ()) := fun F σ H ok xh φ p Q k =>
  h F σ H ok.w p.1 Q fun a vs F' H' g hH hF ho r z => k () a vs F' H' (ok.grow g) hH hF ho (fun c hc e => by
    obtain ⟨_, o, e1, _⟩ := ok.cell c hc
    rw [e, hH] at e1; cases e1) r z p.2
theorem frz_mv {cs cs' : List (Cell X.K)} {F H F' H' : Hp} {a : Addr} {o : HO} (m : Mv cs F H cs' F' H') (hH : H a = none) (hF : F' a = none) (ho : H' a = some o) (hn : ∀ c ∈ cs', c.a ≠ a) : Mv cs F H cs' (upd F' a o) H' where
  ff := m.ff.trans (same_upd hF)
  fh := fun b u e => by
    by_cases z : b = a
    · subst z; rw [upd_same] at e; cases e; exact ho
    · rw [upd_ne z] at e; exact m.fh _ _ e
  fr := fun b h1 h2 => by
    by_cases z : b = a
    · subst z; exact hH
    · rw [upd_ne z] at h2; exact m.fr b h1 h2
  kp := m.kp
  cell := fun c hc => by
    obtain ⟨n, u, e, r⟩ := m.cell c hc
    exact ⟨by rw [upd_ne (hn c hc)]; exact n, u, e, c.ck.mono (same_upd hF) r⟩
  nd := m.nd
  nw := m.nw
  st := m.st
theorem NE.ek {T : Ty X.K α} {vl : μ → List α} {cs' : μ → List (Cell X.K)} {M : (μ → Prop) → Prop} (h : NE X Y e ρ cs T vl cs' M) : EK X Y e ρ cs (tL T) vl cs' M := fun F σ H ok xh φ p Q k =>
  h F σ H ok xh φ p Q fun y a vs F' H' m hH hF ho hn r z q => k y _ _ _ (frz_mv m hH hF ho hn) ⟨a, vs, rfl, upd_same, r.mono (same_upd hF), z⟩ q
/-- as a cell, the last one -/
theorem new_mv {T : Ty X.K α} {xs : List α} {cs cs' : List (Cell X.K)} {F H F' H' : Hp} {a : Addr} {vs : List V} (m : Mv cs F H cs' F' H') (hH : H a = none) (hF : F' a = none) (ho : H' a = some (.lst vs)) (hn : ∀ c ∈ cs', c.a ≠ a) (r : Rl T F' vs xs) (z : vs.length ≤ sizeLine) :
    Mv cs F H (cs' ++ [⟨a, cL T xs⟩]) F' H' where
  ff := m.ff
  fh := m.fh
  fr := m.fr
  kp := m.kp
  cell := fun c hc => by
    rcases List.mem_append.mp hc with hc | hc
    · exact m.cell c hc
    · obtain rfl := List.mem_singleton.mp hc
      exact ⟨hF, _, ho, vs, rfl, r, z⟩
  nd := by
    rw [List.map_append]
    refine List.nodup_append.mpr ⟨m.nd, by simp, fun x hx y hy => ?_⟩
    obtain ⟨c, hc, rfl⟩ := List.mem_map.mp hx
    have : y = a := by simpa using hy
    rw [this]; exact hn c hc
  nw := fun c hc => by
    rcases List.mem_append.mp hc with hc | hc
    · exact m.nw c hc
    · obtain rfl := List.mem_singleton.mp hc
      exact .inr hH
  st := m.st
theorem NE.own {T : Ty X.K α} {vl : μ → List α} {cs' : μ → List (Cell X.K)} {M : (μ → Prop) → Prop} (h : NE X Y e ρ cs T vl cs' M) :
    EK X Y e ρ cs tR (fun y : μ × Addr × List α => y.2.1) (fun y => cs' y.1 ++ [⟨y.2.1, cL T y.2.2⟩]) (fun φ => M fun y => ∀ a z, z = vl y → φ (y, a, z)) := fun F σ H ok xh φ p Q k =>
  h F σ H ok xh _ p Q fun y a vs F' H' m hH hF ho hn r z q => k (y, a, vl y) _ _ _ (new_mv m hH hF ho hn r z) rfl (q a _ rfl)
/-- a display -/
theorem nk_lst {es : List Expr} {T : Ty X.K α} {x : List α} {P : Prop} (h : PAK X es ρ cs (tsL T) x P) (hl : x.length ≤ 1000 := by decide) : NK X (.List es pos) ρ cs T x P := fun F σ H ok p Q k => by
  refine we (pe_lst pa_w) ?_
  refine h F σ H ok p _ fun vs F1 H1 g1 r1 => ?_
  have hz : vs.length ≤ sizeLine := Nat.le_trans (by rw [Rl.length r1]; exact hl) (by decide)
  refine ⟨hz, fun q hq => ?_⟩
  have hF : F1 q = none := by
    cases e : F1 q with
    | none => rfl
    | some u => rw [g1.fh _ _ e] at hq; cases hq
  refine k q vs F1 _ ⟨g1.ff, fun b u e => ?_, fun b u e => ?_, g1.fr⟩ (g1.hh.free hq) hF upd_same r1 hz
  · have : b ≠ q := fun z => by rw [z, hF] at e; cases e
    rw [upd_ne this]; exact g1.fh _ _ e
  · have : b ≠ q := fun z => by rw [z, g1.hh.free hq] at e; cases e
    rw [upd_ne this]; exact g1.hh _ _ e
/-- a call that hands back a new list -/
theorem grow_upd {F H F1 H1 : Hp} {q : Addr} {o : HO} (g1 : Grow F H F1 H1) (hq : H1 q = none) : Grow F H F1 (upd H1 q o) ∧ F1 q = none := by
  have hF : F1 q = none := by
    cases e : F1 q with
    | none => rfl
    | some u => rw [g1.fh _ _ e] at hq; cases hq
  refine ⟨⟨g1.ff, fun b u e => ?_, fun b u e => ?_, g1.fr⟩, hF⟩
  · have : b ≠ q := fun z => by rw [z, hF] at e; cases e
    rw [upd_ne this]; exact g1.fh _ _ e
  · have : b ≠ q := fun z => by rw [z, g1.hh.free hq] at e; cases e
    rw [upd_ne this]; exact g1.hh _ _ e
/-! ### what is walked, with effects ahead -/
def IE (X : Cx) (Y : Ec X.K) (tg iter : Expr) (ρ : List (Slot X.K)) (cs : List (Cell X.K)) {μ α : Type} (T : Ty X.K α) (xs : μ → List α) (cs' : μ → List (Cell X.K)) (M : (μ → Prop) → Prop) : Prop :=
  ∀ F σ H, Okc ρ cs F σ H → Xh X Y cs F σ H → ∀ φ : μ → Prop, M φ → ∀ R : It → Hp → Prop, (∀ y J F' H', Mv cs F H (cs' y) F' H' → ItOk T J F' (xs y) → (xs y).length ≤ sizeLine → φ y → R J H') → WI X tg iter σ H R
theorem IK.ie {tg iter : Expr} {T : Ty X.K α} {xs : List α} {P : Prop} (h : IK X tg iter ρ cs T xs P) : IE X Y tg iter ρ cs T (fun _ : Unit => xs) (fun _ => cs) (fun φ => P ∧ φ ()) := fun F σ H ok xh φ p R k =>
  h F σ H ok.w p.1 R fun J F' H' g it z => k () J F' H' (ok.grow g) it z p.2
theorem ie_range1 {tg a : Expr} {vl : μ → Int} {cs' : μ → List (Cell X.K)} {M : (μ → Prop) → Prop} {p : Pos} (hm : X.mg "range" = none) (h : EK X Y a ρ cs tI vl cs' M) (hg : Gl X "range" := by rfl) (hs : starEach [a] X.env = [(false, eval a X.env)] := by rfl) :
    IE X Y tg (.Call (.Name "range" p) [a] [] pos) ρ cs tI (fun y => rng 0 (vl y)) cs' (fun φ => M fun y => -(2 ^ 62) ≤ vl y ∧ vl y ≤ 16777216 ∧ φ y) := fun F σ H ok xh φ q R k => by
  refine wi (pi_range1 hg hm (pa_cons pe_w pa_nil hs) hs) ?_
  refine h F σ H ok xh _ q _ fun y v F1 H1 m r q2 => ⟨vl y, by cases r; rfl, q2.1, by have := q2.2.1; omega, k y _ F1 H1 m ?_ (by rw [rng_length, sizeLine_eq]; have := q2.2.1; omega) q2.2.2⟩
  have := itr_ok (K := X.K) (F := F1) (a := 0) (b := vl y)
  rw [show (vl y - 0).toNat = (vl y).toNat by rw [Int.sub_zero]] at this
  exact this
theorem ie_list {tg : Expr} {T : Ty X.K α} {vl : μ → List α} {cs' : μ → List (Cell X.K)} {M : (μ → Prop) → Prop} (h : EK X Y e ρ cs (tL T) vl cs' M) : IE X Y tg e ρ cs T vl cs' M := fun F σ H ok xh φ p R k => by
  refine wi (pi_list pe_w) ?_
  refine h F σ H ok xh _ p _ fun y v F1 H1 m ⟨a, vs, e1, hq, r, z⟩ q => ?_
  exact ⟨a, e1, ⟨vs, SqL.of (m.fh _ _ hq)⟩, k y _ F1 H1 m (itl_ok (SqL.of hq) r) (by rw [← Rl.length r]; exact z) q⟩
/-! ### comprehensions -/
def TsK (X : Cx) (Y : Ec X.K) (ifs : List Expr) (ρ : List (Slot X.K)) (cs : List (Cell X.K)) {μ : Type} (vl : μ → Bool) (cs' : μ → List (Cell X.K)) (M : (μ → Prop) → Prop) : Prop :=
  ∀ F σ H, Okc ρ cs F σ H → Xh X Y cs F σ H → ∀ φ : μ → Prop, M φ → ∀ Q : Bool → Hp → Prop, (∀ y F' H', Mv cs F H (cs' y) F' H' → φ y → Q (vl y) H') → WTs X ifs σ H Q
theorem ts_0 : TsK X Y [] ρ cs (fun _ : Unit => true) (fun _ => cs) (fun φ => φ ()) := fun F σ H ok xh φ p Q k => wts pts_nil (k () F H ok.refl p)
theorem ts_1 {c : Expr} {vl : μ → Bool} {cs' : μ → List (Cell X.K)} {M : (μ → Prop) → Prop} (h : TK X Y c ρ cs vl cs' M) : TsK X Y [c] ρ cs vl cs' M := fun F σ H ok xh φ p Q k => wts (pts_one pt_w) (h F σ H ok xh φ p Q k)
def wipeS (ρ : List (Slot X.K)) : List Nat → List (Slot X.K)
  | [] => ρ
  | v :: vs => (wipeS ρ vs).set v .un
theorem wipe_prd {F : Hp} {σ : L2.St} (h : Prd (Slot.ok F) ρ σ) : ∀ vs : List Nat, Prd (Slot.ok F) (wipeS ρ vs) (wipe σ vs)
  | [] => h
  | v :: vs => (wipe_prd h vs).set (R := Slot.ok F) (x := .un) (u := none) trivial v
/-- no exception -/
abbrev Y0 (K : PySem.W.Frag) : Ec K := ⟨[], fun _ => False⟩
theorem xh0 {F H : Hp} {σ : L2.St} : Xh X (Y0 X.K) cs F σ H := ⟨fun _ _ _ _ => False, takes0, fun _ _ _ _ _ _ _ _ _ e => e.elim⟩
/-- the reading of a comprehension, its parts by their weakest readings -/
def gBlk (X : Cx) (tg : Expr) (scope : Scope) : TG := fun v σ H Q => ∀ (s : Shared) (H0 : Hp) (C : Addr) (cl : List (Str × Addr)) (fp : List Addr), WG (X.blk s H0 scope (compEnvC scope cl C X.env) fp) tg v σ H Q
def ttBlk (X : Cx) (ifs : List Expr) (scope : Scope) : TT := fun σ H Q => ∀ (s : Shared) (H0 : Hp) (C : Addr) (cl : List (Str × Addr)) (fp : List Addr), WTs (X.blk s H0 scope (compEnvC scope cl C X.env) fp) ifs σ H Q
def teBlk (X : Cx) (elt : Expr) (scope : Scope) : TE := fun σ H Q => ∀ (s : Shared) (H0 : Hp) (C : Addr) (cl : List (Str × Addr)) (fp : List Addr), WE (X.blk s H0 scope (compEnvC scope cl C X.env) fp) elt σ H Q
theorem pg_blk {tg : Expr} {scope : Scope} (s : Shared) (H : Hp) (C : Addr) (cl : List (Str × Addr)) (fp : List Addr) : PG (X.blk s H scope (compEnvC scope cl C X.env) fp) tg (gBlk X tg scope) := ⟨fun pins s' σ H1 v u Q I r h => h s H C cl fp pins s' u I r⟩
theorem pts_blk {ifs : List Expr} {scope : Scope} (s : Shared) (H : Hp) (C : Addr) (cl : List (Str × Addr)) (fp : List Addr) : PTs (X.blk s H scope (compEnvC scope cl C X.env) fp) ifs (ttBlk X ifs scope) := ⟨fun pins s' σ H1 Q I h => h s H C cl fp pins s' I⟩
theorem pe_blk {elt : Expr} {scope : Scope} (s : Shared) (H : Hp) (C : Addr) (cl : List (Str × Addr)) (fp : List Addr) : PE (X.blk s H scope (compEnvC scope cl C X.env) fp) elt (teBlk X elt scope) := ⟨fun pins s' σ H1 Q I h => h s H C cl fp pins s' I⟩
def tLcW (X : Cx) (elt tg iter : Expr) (ifs : List Expr) (scope : Scope) (own : List (Str × Nat)) : TE := tLc (WI X tg iter) (gBlk X tg scope) (ttBlk X ifs scope) (teBlk X elt scope) (own.map (·.2))
/-- a comprehension that makes a new list -/
def LcK (X : Cx) (Y : Ec X.K) (elt tg iter : Expr) (ifs : List Expr) (scope : Scope) (own : List (Str × Nat)) (ρ : List (Slot X.K)) (cs : List (Cell X.K)) {μ α : Type} (T : Ty X.K α) (vl : μ → List α) (cs' : μ → List (Cell X.K)) (M : (μ → Prop) → Prop) : Prop :=
  ∀ F σ H, Okc ρ cs F σ H → Xh X Y cs F σ H → ∀ φ : μ → Prop, M φ → ∀ Q : VK, (∀ y a vs F' H', Mv cs F H (cs' y) F' H' → H a = none → F' a = none → H' a = some (.lst vs) → (∀ c ∈ cs' y, c.a ≠ a) → Rl T F' vs (vl y) → vs.length ≤ sizeLine → φ y → Q (.ref a) H') → tLcW X elt tg iter ifs scope own σ H Q
theorem lc_k {elt tg iter : Expr} {ifs : List Expr} {scope : Scope} {own : List (Str × Nat)} {T : Ty X.K α} {U : Ty X.K γ} {xs : μ → List α} {cs1 : μ → List (Cell X.K)} {Mi : (μ → Prop) → Prop} {G : List (Slot X.K) → α → List (Slot X.K)} {vs : List Nat}
    {τ : β → α → Type} {υ : (z : β) → (x : α) → τ z x → Type} {cs' : β → List (Cell X.K)} {z0 : μ → β} {bt : (z : β) → (x : α) → τ z x → Bool} {s1 : (z : β) → (x : α) → τ z x → β} {Mt : (z : β) → (x : α) → (τ z x → Prop) → Prop}
    {vl : (z : β) → (x : α) → (y : τ z x) → υ z x y → γ} {s2 : (z : β) → (x : α) → (y : τ z x) → υ z x y → β} {Me : (z : β) → (x : α) → (y : τ z x) → (υ z x y → Prop) → Prop}
    (hi : IE X Y tg iter ρ cs T xs cs1 Mi) (hz : ∀ y, cs1 y = cs' (z0 y)) (hvs : ∀ j ∈ vs, j ∈ own.map (·.2))
    (hg : ∀ (s : Shared) (H : Hp) (C : Addr) (cl : List (Str × Addr)) (fp : List Addr), GK (X.blk s H scope (compEnvC scope cl C X.env) fp) tg T G vs)
    (ht : ∀ (s : Shared) (H : Hp) (C : Addr) (cl : List (Str × Addr)) (fp : List Addr) (z : β) (x : α), TsK (X.blk s H scope (compEnvC scope cl C X.env) fp) (Y0 X.K) ifs (G (wipeS ρ (own.map (·.2))) x) (cs' z) (bt z x) (fun y => cs' (s1 z x y)) (Mt z x))
    (he : ∀ (s : Shared) (H : Hp) (C : Addr) (cl : List (Str × Addr)) (fp : List Addr) (z : β) (x : α) (y : τ z x), EK (X.blk s H scope (compEnvC scope cl C X.env) fp) (Y0 X.K) elt (G (wipeS ρ (own.map (·.2))) x) (cs' (s1 z x y)) U (vl z x y) (fun u => cs' (s2 z x y u)) (Me z x y)) :
    LcK X Y elt tg iter ifs scope own ρ cs U (fun y : List γ × β => y.1) (fun y => cs' y.2) (fun φ => Mi fun w => ∃ I : Nat → List γ → β → Prop, I 0 [] (z0 w) ∧
      (∀ i acc z x, (xs w)[i]? = some x → I i acc z → Mt z x fun y => (bt z x y = true → Me z x y fun u => I (i + 1) (acc ++ [vl z x y u]) (s2 z x y u)) ∧ (bt z x y = false → I (i + 1) acc (s1 z x y))) ∧ ∀ acc z, I (xs w).length acc z → φ (acc, z)) := fun F σ H ok0 xh φ p Q k => by
  refine hi F σ H ok0 xh _ p _ fun w J F1 H1 m1 it hsz q => ?_
  obtain ⟨I, i0, iS, iE⟩ := q
  refine fun D hD => ⟨fun i m H2 => m = (xs w).length - i ∧ i ≤ (xs w).length ∧ ∃ z acc F2 us, Mv cs F H (cs' z) F2 H2 ∧ Same F1 F2 ∧ F2 D = none ∧ H2 D = some (.lst us) ∧ (∀ c ∈ cs' z, c.a ≠ D) ∧ Rl U F2 us acc ∧ us.length ≤ i ∧ I i acc z, ⟨(xs w).length, by simp, Nat.zero_le _, ?_⟩, ?_⟩
  · have hF : F1 D = none := by
      cases e : F1 D with
      | none => rfl
      | some u => rw [m1.fh _ _ e] at hD; cases hD
    have nD : ∀ c ∈ cs' (z0 w), c.a ≠ D := fun c hcm e => by
      rw [← hz] at hcm
      obtain ⟨_, o, e1, _⟩ := m1.cell c hcm
      rw [e, hD] at e1; cases e1
    refine ⟨z0 w, [], F1, [], ?_, Same.refl _, hF, upd_same, nD, .nil, Nat.zero_le _, i0⟩
    rw [← hz] at nD ⊢
    exact ⟨m1.ff, (fun b u e => by
        have : b ≠ D := fun z => by rw [z, hF] at e; cases e
        rw [upd_ne this]; exact m1.fh _ _ e), m1.fr, (fun b u e n => by
        have h1 := m1.kp b u e n
        have : b ≠ D := fun z => by rw [z, hD] at h1; cases h1
        rw [upd_ne this]; exact h1), (fun c hcm => by
        obtain ⟨n, o, e1, r⟩ := m1.cell c hcm
        exact ⟨n, o, by rw [upd_ne (nD c hcm)]; exact e1, r⟩), m1.nd, m1.nw, (fun c hcm e => by
        by_cases h : c.a = D
        · rw [h, upd_same] at e; cases e
        · rw [upd_ne h] at e; exact m1.st c hcm e)⟩
  · rintro i m H2 ⟨rfl, hil, z, acc, F2, us, m2, e12, hF2, hH2, nD, rl, hul, hI⟩
    have hHD : H D = none := by
      cases e : H D with
      | none => rfl
      | some u =>
        by_cases hx : ∃ c ∈ cs, c.a = D
        · obtain ⟨c, hcm, rfl⟩ := hx
          exact absurd hD (m1.st c hcm)
        · rw [m1.kp D u e fun c hcm e => hx ⟨c, hcm, e⟩] at hD; cases hD
    obtain ⟨go, stop⟩ := it i F2 H2 e12 m2.fh
    by_cases hlt : i < (xs w).length
    · obtain ⟨hgo, hy⟩ := go (xs w)[i] (List.getElem?_eq_getElem hlt)
      refine .inr ⟨hgo, fun H3 => ∃ z acc F3 us, Mv cs F H (cs' z) F3 H3 ∧ Same F1 F3 ∧ F3 D = none ∧ H3 D = some (.lst us) ∧ (∀ c ∈ cs' z, c.a ≠ D) ∧ Rl U F3 us acc ∧ us.length ≤ i + 1 ∧ I (i + 1) acc z, fun H3 h => ⟨(xs w).length - (i + 1), by omega, rfl, hlt, h⟩, fun v H3 hv => ?_⟩
      obtain ⟨F3, g3, rv⟩ := hy v H3 hv
      have ok2 : Okc ρ (cs' z) F2 σ H2 := ok0.mv m2
      have m23 := ok2.grow g3
      have ok3 := ok2.mv m23
      have step := iS i acc z (xs w)[i] (List.getElem?_eq_getElem hlt) hI
      -- D stands through whatever the cells do
      have keepD : ∀ {ca cb : List (Cell X.K)} {Fa Ha Fb Hb : Hp}, Mv ca Fa Ha cb Fb Hb → Fa D = none → Ha D = some (.lst us) → (∀ c ∈ ca, c.a ≠ D) → Fb D = none ∧ Hb D = some (.lst us) ∧ ∀ c ∈ cb, c.a ≠ D := fun {ca cb Fa Ha Fb Hb} mm h1 h2 h3 => by
        refine ⟨?_, mm.kp D _ h2 h3, fun c hcm e => ?_⟩
        · cases e : Fb D with
          | none => rfl
          | some u =>
            have := mm.fr D h1 (by rw [e]; simp)
            rw [h2] at this; cases this
        · rcases mm.nw c hcm with ⟨c0, h0, e0⟩ | h0
          · exact h3 c0 h0 (e0.trans e)
          · rw [e, h2] at h0; cases h0
      have d3 := keepD m23 hF2 hH2 nD
      intro s0 H0 C cl fp
      refine hg s0 H0 C cl fp F3 _ H3 v (xs w)[i] _ (wipe_prd ok3.env (own.map (·.2))) ok3.same rv _ ?_
      intro σ4 hρ4 hw4
      refine ⟨?_, ?_⟩
      · rw [hw4 _ hvs]
        have idem : ∀ (l l' : List Nat) (σ : L2.St), (∀ j ∈ l, j ∈ l') → wipe (wipe σ l) l' = wipe σ l' := by
          intro l
          induction l with
          | nil => intro l' σ _; rfl
          | cons j l ih =>
            intro l' σ h
            show wipe ((wipe σ l).set j none) l' = _
            rw [wipe_set l' _ (h j (by simp))]
            exact ih l' σ fun x hx => h x (List.mem_cons_of_mem _ hx)
        exact idem _ _ σ fun _ h => h
      have ok4 : Okc (G (wipeS ρ (own.map (·.2))) (xs w)[i]) (cs' z) F3 σ4 H3 := ⟨hρ4, ok3.same, ok3.cell, ok3.nd⟩
      intro s0 H0 C cl fp
      refine ht s0 H0 C cl fp z (xs w)[i] F3 σ4 H3 ok4 xh0 _ step _ fun y F5 H5 m5 q5 => ?_
      have d5 := keepD m5 d3.1 d3.2.1 d3.2.2
      have m05 := (m2.trans m23).trans m5
      cases hb : bt z (xs w)[i] y with
      | false =>
        exact (if_neg Bool.false_ne_true).mpr ⟨_, acc, F5, us, m05, (e12.trans g3.ff).trans m5.ff, d5.1, d5.2.1, d5.2.2, rl.mono (g3.ff.trans m5.ff), by omega, q5.2 hb⟩
      | true =>
        refine (if_pos rfl).mpr ?_
        intro s0 H0 C cl fp
        refine he s0 H0 C cl fp z (xs w)[i] y F5 σ4 H5 (ok4.mv m5) xh0 _ (q5.1 hb) _ fun u v6 F6 H6 m6 r6 q6 => ?_
        have d6 := keepD m6 d5.1 d5.2.1 d5.2.2
        refine ⟨us, d6.2.1, Nat.lt_of_le_of_lt hul (Nat.lt_of_lt_of_le hlt hsz), _, acc ++ [vl z (xs w)[i] y u], F6, us ++ [v6], ?_, ((e12.trans g3.ff).trans m5.ff).trans m6.ff, d6.1, upd_same, d6.2.2, Rl.append (rl.mono ((g3.ff.trans m5.ff).trans m6.ff)) (.cons r6 .nil), by rw [List.length_append, List.length_singleton]; omega, q6⟩
        have mm := m05.trans m6
        exact ⟨mm.ff, (fun b u e => by
            have : b ≠ D := fun z => by rw [z, d6.1] at e; cases e
            rw [upd_ne this]; exact mm.fh _ _ e), mm.fr, (fun b u e n => by
            have : b ≠ D := fun z => by rw [z, hHD] at e; cases e
            rw [upd_ne this]; exact mm.kp b u e n), (fun c hcm => by
            obtain ⟨n, o, e1, r⟩ := mm.cell c hcm
            exact ⟨n, o, by rw [upd_ne (d6.2.2 c hcm)]; exact e1, r⟩), mm.nd, mm.nw, (fun c hcm e => by
            by_cases h : c.a = D
            · rw [h, upd_same] at e; cases e
            · rw [upd_ne h] at e; exact mm.st c hcm e)⟩
    · refine .inl ⟨stop (by omega), ?_⟩
      have hl : i = (xs w).length := by omega
      exact k (acc, z) D us F2 H2 m2 hHD hF2 hH2 nD rl (by omega) (iE acc z (by rw [← hl]; exact hI))
/-- .. as a value -/
theorem ne_lc {elt tg iter : Expr} {ifs : List Expr} {scope : Scope} {own : List (Str × Nat)} {T : Ty X.K α} {vl : μ → List α} {cs' : μ → List (Cell X.K)} {M : (μ → Prop) → Prop} (hc : X.calm = true) (hN : X.N.Nodup) (ok : BlkOk X.N X.env.scope scope own) (h : LcK X Y elt tg iter ifs scope own ρ cs T vl cs' M)
    (hfo : ∀ x, foldedSetIterable iter X.env x = pure x := by intro _; rfl) : NE X Y (.ListComp elt [⟨tg, iter, ifs, 0⟩] scope pos) ρ cs T vl cs' M := fun F σ H ok0 xh φ p Q k =>
  we (pe_lc hc hN pi_w ok pg_blk pts_blk pe_blk hfo) (h F σ H ok0 xh φ p Q k)
/-- y = [..], frozen -/
theorem sk_setLc {i : Nat} {nm : Str} {py : Pos} {elt tg iter : Expr} {ifs : List Expr} {scope : Scope} {own : List (Str × Nat)} {T : Ty X.K α} {vl : μ → List α} {cs' : μ → List (Cell X.K)} {M : (μ → Prop) → Prop} {spos : Pos} {φ : μ → List α → Prop} (hc : X.calm = true) (hN : X.N.Nodup) (ok : BlkOk X.N X.env.scope scope own) (h : LcK X Y elt tg iter ifs scope own ρ cs T vl cs' M)
    (k : ∀ y z, SK X B Y fl rest (ρ.set i (.val (tL T) z)) (cs' y) D (φ y z)) (hy : X.N[i]? = some nm := by rfl) (hyl : X.env.scope.names.lookup nm = some .local := by rfl)
    (hsw : swapsWith (.ListComp elt [⟨tg, iter, ifs, 0⟩] scope pos) (some (.Name nm py)) spos.line X.env = pure true := by exact sw_true rfl rfl rfl (by decide +kernel))
    (hfo : ∀ x, foldedSetIterable iter X.env x = pure x := by intro _; rfl) :
    SK X B Y fl (.Assign [.Name nm py] (.ListComp elt [⟨tg, iter, ifs, 0⟩] scope pos) spos :: rest) ρ cs D (M fun y => ∀ z, z = vl y → φ y z) := fun F σ H ok0 p W tk hx' => by
  refine wb (pss_cons (ps_setLc hc hN hy hyl hsw pi_w ok pg_blk pts_blk pe_blk hfo) pss_w) ?_
  refine h F σ H ok0.c (xh_of ok0 tk hx') _ p _ fun y a vs F' H' m hH hF ho hn r z q => ?_
  have m2 := frz_mv m hH hF ho hn
  have ok1 := ok0.to m2
  exact k y (vl y) _ _ H' (ok1.set i ⟨a, vs, rfl, upd_same, r.mono (same_upd hF), z⟩) (q _ rfl) W tk hx'
/-- y = [..], owned -/
theorem sk_setLcN {i : Nat} {nm : Str} {py : Pos} {elt tg iter : Expr} {ifs : List Expr} {scope : Scope} {own : List (Str × Nat)} {T : Ty X.K α} {vl : μ → List α} {cs' : μ → List (Cell X.K)} {M : (μ → Prop) → Prop} {spos : Pos} {φ : μ → Addr → List α → Prop} (hc : X.calm = true) (hN : X.N.Nodup) (ok : BlkOk X.N X.env.scope scope own) (h : LcK X Y elt tg iter ifs scope own ρ cs T vl cs' M)
    (k : ∀ y a z, SK X B Y fl rest (ρ.set i (.val tR a)) (cs' y ++ [⟨a, cL T z⟩]) D (φ y a z)) (hy : X.N[i]? = some nm := by rfl) (hyl : X.env.scope.names.lookup nm = some .local := by rfl)
    (hsw : swapsWith (.ListComp elt [⟨tg, iter, ifs, 0⟩] scope pos) (some (.Name nm py)) spos.line X.env = pure true := by exact sw_true rfl rfl rfl (by decide +kernel))
    (hfo : ∀ x, foldedSetIterable iter X.env x = pure x := by intro _; rfl) :
    SK X B Y fl (.Assign [.Name nm py] (.ListComp elt [⟨tg, iter, ifs, 0⟩] scope pos) spos :: rest) ρ cs D (M fun y => ∀ a z, z = vl y → φ y a z) := fun F σ H ok0 p W tk hx' => by
  refine wb (pss_cons (ps_setLc hc hN hy hyl hsw pi_w ok pg_blk pts_blk pe_blk hfo) pss_w) ?_
  refine h F σ H ok0.c (xh_of ok0 tk hx') _ p _ fun y a vs F' H' m hH hF ho hn r z q => ?_
  have ok1 := ok0.to (new_mv m hH hF ho hn r z)
  exact k y a (vl y) _ _ H' (ok1.set (T := tR) i rfl) (q a _ rfl) W tk hx'
/-! ### statements with cells -/
/-- x = a new owned list -/
theorem sk_setN {i : Nat} {nm : Str} {pos' : Pos} {T : Ty X.K α} {vl : μ → List α} {cs' : μ → List (Cell X.K)} {M : (μ → Prop) → Prop} {φ : μ → Addr → List α → Prop} (hN : X.N.Nodup) (he : NE X Y e ρ cs T vl cs' M) (k : ∀ y a z, SK X B Y fl rest (ρ.set i (.val tR a)) (cs' y ++ [⟨a, cL T z⟩]) D (φ y a z)) (hi : X.N[i]? = some nm := by rfl)
    (hx : Loc X.env.scope nm := by first | exact Or.inl rfl | exact Or.inr rfl)
    (hs : swapsWith e (some (.Name nm pos')) pos.line X.env = pure false := by rfl) (hf : X.fn nm = true ∨ X.env.scope.names.lookup nm = some .local := by first | exact .inl rfl | exact .inr rfl) :
    SK X B Y fl (.Assign [.Name nm pos'] e pos :: rest) ρ cs D (M fun y => ∀ a z, z = vl y → φ y a z) := fun F σ H ok p W tk hx' => by
  refine wb (pss_cons (ps_set hN hi hx pe_w hs hf) pss_w) ?_
  refine he F σ H ok.c (xh_of ok tk hx') _ p _ fun y a vs F' H' m hH hF ho hn r z q => ?_
  have ok1 := ok.to (new_mv m hH hF ho hn r z)
  exact k y a (vl y) F' _ H' (ok1.set (T := tR) i rfl) (q a _ rfl) W tk hx'
/-- a cell's content gets a name -/
theorem sk_name {st : List Stmt} {T : Ty X.K α} {l : Addr} {x : List α} {φ : List α → Prop} (j : Nat) (hc : cs[j]? = some ⟨l, cL T x⟩) (k : ∀ w, SK X B Y fl st ρ (cs.set j ⟨l, cL T w⟩) D (φ w)) : SK X B Y fl st ρ cs D (∀ w, w = x → φ w) := fun F σ H ok p W tk hx' => by
  have e : cs.set j ⟨l, cL T x⟩ = cs := by
    apply List.ext_getElem?
    intro n
    by_cases hn : j = n
    · subst hn
      rw [List.getElem?_set_self (List.getElem?_eq_some_iff.mp hc).1, hc]
    · rw [List.getElem?_set_ne hn]
  have q := k x
  rw [e] at q
  exact q F σ H ok (p x rfl) W tk hx'
/-- the cell at j is written no more: frozen; it was made here -/
theorem sk_freeze {st : List Stmt} {T : Ty X.K α} {l : Addr} {x : List α} {φ : Prop} (j i : Nat) (hc : cs[j]? = some ⟨l, cL T x⟩) (hρ : ρ[i]? = some (.val tR l)) (hB : (cs.map Cell.a).take B.cin.length = B.cin.map Cell.a) (hj : B.cin.length ≤ j) (k : SK X B Y fl st (ρ.set i (.val (tL T) x)) (cs.eraseIdx j) D φ) : SK X B Y fl st ρ cs D φ := fun F σ H ok p W tk hx' => by
  have hm : ⟨l, cL T x⟩ ∈ cs := List.mem_of_getElem? hc
  obtain ⟨hF, o, ho, vs, e, r, z⟩ := ok.mv.cell _ hm
  subst e
  have hlt : j < cs.length := (List.getElem?_eq_some_iff.mp hc).1
  have inj : ∀ (n : Nat) (d : Cell X.K), cs[n]? = some d → d.a = l → n = j := fun n d e z => by
    have e1 : (cs.map Cell.a)[n]? = some l := by rw [List.getElem?_map, e]; exact congrArg some z
    have e2 : (cs.map Cell.a)[j]? = some l := by rw [List.getElem?_map, hc]; rfl
    obtain ⟨h1, q1⟩ := List.getElem?_eq_some_iff.mp e1
    obtain ⟨h2, q2⟩ := List.getElem?_eq_some_iff.mp e2
    exact (List.getElem_inj ok.mv.nd).mp (q1.trans q2.symm)
  have notin : ∀ c ∈ B.cin, c.a ≠ l := fun c hcm e => by
    have h1 : c.a ∈ (cs.map Cell.a).take B.cin.length := by rw [hB]; exact List.mem_map.mpr ⟨c, hcm, rfl⟩
    obtain ⟨n, hn⟩ := List.getElem?_of_mem h1
    have hnl : n < B.cin.length := by
      have := (List.getElem?_eq_some_iff.mp hn).1
      rw [List.length_take] at this
      omega
    rw [List.getElem?_take_of_lt hnl, List.getElem?_map] at hn
    cases q : cs[n]? with
    | none => rw [q] at hn; cases hn
    | some d =>
      rw [q] at hn
      have : n = j := inj n d q ((Option.some.inj hn).trans e)
      omega
  have fresh : B.H0 l = none := by
    rcases ok.mv.nw _ hm with ⟨c0, h0, e0⟩ | h0
    · exact absurd e0 (notin c0 h0)
    · exact h0
  have sF : Same F (upd F l (.lst vs)) := same_upd hF
  have rest_ne : ∀ c ∈ cs.eraseIdx j, c ∈ cs ∧ c.a ≠ l := fun c hcm => by
    refine ⟨List.mem_of_mem_eraseIdx hcm, fun e => ?_⟩
    obtain ⟨n, hn⟩ := List.getElem?_of_mem hcm
    rw [List.getElem?_eraseIdx] at hn
    split at hn
    · have := inj n c hn e; omega
    · have := inj (n + 1) c hn e; omega
  have ok2 : Ok B fl (ρ.set i (.val (tL T) x)) (cs.eraseIdx j) (upd F l (.lst vs)) σ H := by
    obtain ⟨u, hu, hs⟩ := ok.env.get hρ
    obtain ⟨v, ev, rv⟩ := hs
    subst ev
    have hv : v = .ref l := rv
    subst hv
    have e1 : σ.set i (some (.ref l)) = σ := by
      apply List.ext_getElem?
      intro n
      by_cases hn : i = n
      · subst hn
        rw [List.getElem?_set_self (List.getElem?_eq_some_iff.mp hu).1, hu]
      · rw [List.getElem?_set_ne hn]
    have env2 : Prd (Slot.ok (upd F l (.lst vs))) (ρ.set i (.val (tL T) x)) (σ.set i (some (.ref l))) :=
      (ok.env.mono fun _ _ r => r.mono sF).set (R := Slot.ok (upd F l (.lst vs))) (x := .val (tL T) x) (u := some (.ref l)) ⟨_, rfl, l, vs, rfl, upd_same, r.mono sF, z⟩ i
    rw [e1] at env2
    refine ⟨env2, ⟨ok.mv.ff.trans sF, fun b u e => ?_, fun b h1 h2 => ?_, ok.mv.kp, fun c hcm => ?_, ?_, fun c hcm => ok.mv.nw c (rest_ne c hcm).1, ok.mv.st⟩, ok.flo.trans sF⟩
    · by_cases h : b = l
      · subst h; rw [upd_same] at e; cases e; exact ho
      · rw [upd_ne h] at e; exact ok.mv.fh _ _ e
    · by_cases h : b = l
      · subst h; exact fresh
      · rw [upd_ne h] at h2; exact ok.mv.fr b h1 h2
    · obtain ⟨hcm, hne⟩ := rest_ne c hcm
      obtain ⟨n, o, e, r⟩ := ok.mv.cell c hcm
      exact ⟨by rw [upd_ne hne]; exact n, o, e, c.ck.mono sF r⟩
    · exact ok.mv.nd.sublist ((List.eraseIdx_sublist _ _).map _)
  exact k _ σ H ok2 p W tk hx'
/-- return, the value as it is -/
theorem sk_retF {A γ : Type} {ins : A → List (Slot X.K)} {T : Ty X.K γ} {pre : A → Prop} {f : A → γ} {a : A} {ψ : γ → Prop} {n b' c' : L2.St → Hp → Prop} {x : γ} {P : Prop} {r : List Stmt} (he : PK X e ρ [] T x P) :
    SK X B Y fl (.Return (some e) pos :: r) ρ [] { retD (Con.fn ins T pre f) a B ψ with nx := n, bk := b', ct := c' } (P ∧ ψ x) := sk_ret (C := Con.fn ins T pre f) x he rfl rfl
end
end MD
namespace MD
open PySem PySem.Spec PyProof.Rows L2
section
variable {X : Cx} {fl : Hp} {B : Hb X.K} {Y : Ec X.K} {ρ : List (Slot X.K)} {cs : List (Cell X.K)} {A R α β γ μ ν : Type} {pos : Pos} {rest : List Stmt} {D : Ends} {e : Expr}
/-! ### contracts with one owned list -/
/-- from the callee's cells to the caller's: the cell at j goes, the further ones come behind -/
theorem mv_one {F H F' H' : Hp} {j : Nat} {c c' : Cell X.K} {more : List (Cell X.K)} (ok : Okc ρ cs F σ H) (hc : cs[j]? = some c) (ha : c'.a = c.a) (m : Mv [c] F H (c' :: more) F' H') : Mv cs F H (cs.set j c' ++ more) F' H' := by
  have hj : j < cs.length := (List.getElem?_eq_some_iff.mp hc).1
  have hm : c ∈ cs := List.mem_of_getElem? hc
  have map_eq : (cs.set j c').map Cell.a = cs.map Cell.a := by
    rw [List.map_set]
    apply List.ext_getElem?
    intro n
    by_cases hn : j = n
    · subst hn
      rw [List.getElem?_set_self (by simpa using hj), List.getElem?_map, hc, ha]
      rfl
    · rw [List.getElem?_set_ne hn]
  have others : ∀ (n : Nat) (d : Cell X.K), n ≠ j → cs[n]? = some d → d.a ≠ c.a := fun n d hn e z => by
    have e1 : (cs.map Cell.a)[n]? = some c.a := by rw [List.getElem?_map, e]; exact congrArg some z
    have e2 : (cs.map Cell.a)[j]? = some c.a := by rw [List.getElem?_map, hc]; rfl
    obtain ⟨h1, q1⟩ := List.getElem?_eq_some_iff.mp e1
    obtain ⟨h2, q2⟩ := List.getElem?_eq_some_iff.mp e2
    exact hn ((List.getElem_inj ok.nd).mp (q1.trans q2.symm))
  have newa : ∀ d ∈ more, H d.a = none := fun d hd => by
    rcases m.nw d (List.mem_cons_of_mem _ hd) with ⟨c0, h0, e0⟩ | h0
    · obtain rfl := List.mem_singleton.mp h0
      have nd := m.nd
      rw [List.map_cons, List.nodup_cons] at nd
      exact absurd (List.mem_map.mpr ⟨d, hd, e0.symm.trans ha.symm⟩) nd.1
    · exact h0
  -- the cells that were not handed
  have old : ∀ d ∈ cs, d.a ≠ c.a → F' d.a = none ∧ ∃ o, H' d.a = some o ∧ d.ck.rep F' o := fun d hd hne => by
    obtain ⟨n, o, e, r⟩ := ok.cell d hd
    refine ⟨?_, o, m.kp d.a o e (fun c0 h0 z => ?_), d.ck.mono m.ff r⟩
    · cases q : F' d.a with
      | none => rfl
      | some u =>
        have := m.fr d.a n (by rw [q]; simp)
        rw [e] at this; cases this
    · obtain rfl := List.mem_singleton.mp h0
      exact hne z.symm
  refine ⟨m.ff, m.fh, m.fr, fun b o e n => m.kp b o e fun c0 h0 => ?_, fun d hd => ?_, ?_, fun d hd => ?_, fun d hd => ?_⟩
  · obtain rfl := List.mem_singleton.mp h0
    exact n _ hm
  · rcases List.mem_append.mp hd with hd | hd
    · obtain ⟨n, e⟩ := List.getElem?_of_mem hd
      by_cases hn : n = j
      · subst hn
        rw [List.getElem?_set_self hj] at e
        cases e
        exact m.cell _ List.mem_cons_self
      · rw [List.getElem?_set_ne (Ne.symm hn)] at e
        exact old d (List.mem_of_getElem? e) (others n d hn e)
    · exact m.cell d (List.mem_cons_of_mem _ hd)
  · rw [List.map_append, map_eq]
    have nd := m.nd
    rw [List.map_cons, List.nodup_cons] at nd
    refine List.nodup_append.mpr ⟨ok.nd, nd.2, fun x hx y hy e => ?_⟩
    obtain ⟨d, hd, rfl⟩ := List.mem_map.mp hx
    obtain ⟨d', hd', rfl⟩ := List.mem_map.mp hy
    obtain ⟨_, o, e1, _⟩ := ok.cell d hd
    rw [e, newa d' hd'] at e1; cases e1
  · rcases List.mem_append.mp hd with hd | hd
    · obtain ⟨n, e⟩ := List.getElem?_of_mem hd
      by_cases hn : n = j
      · subst hn
        rw [List.getElem?_set_self hj] at e
        cases e
        exact .inl ⟨c, hm, ha.symm⟩
      · rw [List.getElem?_set_ne (Ne.symm hn)] at e
        exact .inl ⟨d, List.mem_of_getElem? e, rfl⟩
    · exact .inr (newa d hd)
  · by_cases hne : d.a = c.a
    · rw [hne]; exact m.st c (by simp)
    · intro z
      obtain ⟨_, o, e, _⟩ := old d hd hne
      rw [e] at z; cases z
theorem mv_zero {F H F' H' : Hp} {σ : L2.St} {more : List (Cell X.K)} (ok : Okc ρ cs F σ H) (m : Mv [] F H more F' H') : Mv cs F H (cs ++ more) F' H' := by
  have newa : ∀ d ∈ more, H d.a = none := fun d hd => by
    rcases m.nw d hd with ⟨c0, h0, _⟩ | h0
    · cases h0
    · exact h0
  have old : ∀ d ∈ cs, F' d.a = none ∧ ∃ o, H' d.a = some o ∧ d.ck.rep F' o := fun d hd => by
    obtain ⟨n, o, e, r⟩ := ok.cell d hd
    refine ⟨?_, o, m.kp d.a o e (fun c0 h0 => (by cases h0)), d.ck.mono m.ff r⟩
    cases q : F' d.a with
    | none => rfl
    | some u =>
      have := m.fr d.a n (by rw [q]; simp)
      rw [e] at this; cases this
  refine ⟨m.ff, m.fh, m.fr, fun b o e n => m.kp b o e (fun c0 h0 => (by cases h0)), fun d hd => ?_, ?_, fun d hd => ?_, fun d hd z => ?_⟩
  · rcases List.mem_append.mp hd with hd | hd
    · exact old d hd
    · exact m.cell d hd
  · rw [List.map_append]
    refine List.nodup_append.mpr ⟨ok.nd, m.nd, fun x hx y hy e => ?_⟩
    obtain ⟨d, hd, rfl⟩ := List.mem_map.mp hx
    obtain ⟨d', hd', rfl⟩ := List.mem_map.mp hy
    obtain ⟨_, o, e1, _⟩ := ok.cell d hd
    rw [e, newa d' hd'] at e1; cases e1
  · rcases List.mem_append.mp hd with hd | hd
    · exact .inl ⟨d, hd, rfl⟩
    · exact .inr (newa d hd)
  · obtain ⟨_, o, e, _⟩ := old d hd
    rw [e] at z; cases z
/-! ### effects in arguments and operands -/
theorem ak_1 {T : Ty X.K α} {vl : μ → α} {cs' : μ → List (Cell X.K)} {M : (μ → Prop) → Prop} (h : EK X Y e ρ cs T vl cs' M) (hs : starEach (e :: []) X.env = (false, eval e X.env) :: starEach [] X.env := by rfl) : AK X Y [e] ρ cs (ts1 T) vl cs' M := fun F σ H ok xh φ p Q k => by
  refine wa (pa_cons pe_w pa_nil hs) ?_
  exact h F σ H ok xh φ p _ fun y v F1 H1 m r q => k y [v] F1 H1 m ⟨v, rfl, r⟩ q
theorem ak_C {es : List Expr} {T : Ty X.K α} {Ts : Tys X.K β} {vl : μ → α} {cs1 : μ → List (Cell X.K)} {M : (μ → Prop) → Prop} {vl2 : μ → ν → β} {cs2 : μ → ν → List (Cell X.K)} {M2 : μ → (ν → Prop) → Prop} (h : EK X Y e ρ cs T vl cs1 M) (hr : ∀ y, AK X Y es ρ (cs1 y) Ts (vl2 y) (cs2 y) (M2 y))
    (hs : starEach (e :: es) X.env = (false, eval e X.env) :: starEach es X.env := by rfl) : AK X Y (e :: es) ρ cs (tsC T Ts) (fun y : μ × ν => (vl y.1, vl2 y.1 y.2)) (fun y => cs2 y.1 y.2) (fun φ => M fun y => M2 y fun u => φ (y, u)) := fun F σ H ok xh φ p Q k => by
  refine wa (pa_cons pe_w pa_w hs) ?_
  refine h F σ H ok xh _ p _ fun y v F1 H1 m r q => ?_
  refine hr y F1 σ H1 (ok.mv m) (xh.mv m) _ q _ fun u w F2 H2 m2 r2 q2 => ?_
  exact k (y, u) (v :: w) F2 H2 (m.trans m2) ⟨v, w, rfl, T.mono m2.ff r, r2⟩ q2
/-- a list of one type -/
theorem al_0 {T : Ty X.K α} : AK X Y [] ρ cs (tsL T) (fun _ : Unit => []) (fun _ => cs) (fun φ => φ ()) := fun F σ H ok xh φ p Q k => wa pa_nil (k () [] F H ok.refl .nil p)
theorem al_C {es : List Expr} {T : Ty X.K α} {vl : μ → α} {cs1 : μ → List (Cell X.K)} {M : (μ → Prop) → Prop} {vl2 : μ → ν → List α} {cs2 : μ → ν → List (Cell X.K)} {M2 : μ → (ν → Prop) → Prop} (h : EK X Y e ρ cs T vl cs1 M) (hr : ∀ y, AK X Y es ρ (cs1 y) (tsL T) (vl2 y) (cs2 y) (M2 y))
    (hs : starEach (e :: es) X.env = (false, eval e X.env) :: starEach es X.env := by rfl) : AK X Y (e :: es) ρ cs (tsL T) (fun y : μ × ν => vl y.1 :: vl2 y.1 y.2) (fun y => cs2 y.1 y.2) (fun φ => M fun y => M2 y fun u => φ (y, u)) := fun F σ H ok xh φ p Q k => by
  refine wa (pa_cons pe_w pa_w hs) ?_
  refine h F σ H ok xh _ p _ fun y v F1 H1 m r q => ?_
  refine hr y F1 σ H1 (ok.mv m) (xh.mv m) _ q _ fun u w F2 H2 m2 r2 q2 => ?_
  exact k (y, u) (v :: w) F2 H2 (m.trans m2) (.cons (T.mono m2.ff r) r2) q2
theorem ek_op {op : Operator} {a b : Expr} {r : R2} {T1 : Ty X.K α} {T2 : Ty X.K β} {T3 : Ty X.K γ} {C : α → β → Prop} {f : α → β → γ} {vl : μ → α} {cs1 : μ → List (Cell X.K)} {M : (μ → Prop) → Prop} {vl2 : μ → ν → β} {cs2 : μ → ν → List (Cell X.K)} {M2 : μ → (ν → Prop) → Prop} (ho : OpR X (binaryOp op) r) (hr : R2K r T1 T2 T3 C f)
    (ha : EK X Y a ρ cs T1 vl cs1 M) (hb : ∀ y, EK X Y b ρ (cs1 y) T2 (vl2 y) (cs2 y) (M2 y)) : EK X Y (.BinOp a op b pos) ρ cs T3 (fun y : μ × ν => f (vl y.1) (vl2 y.1 y.2)) (fun y => cs2 y.1 y.2) (fun φ => M fun y => M2 y fun u => C (vl y) (vl2 y u) ∧ φ (y, u)) := fun F σ H ok xh φ p Q k => by
  refine we (pe_op ho pe_w pe_w) ?_
  refine ha F σ H ok xh _ p _ fun y v F1 H1 m1 r1 q1 => ?_
  have ok1 := ok.mv m1
  refine hb y F1 σ H1 ok1 (xh.mv m1) _ q1 _ fun u w F2 H2 m2 r2 q2 => ?_
  exact hr F2 H2 v w _ _ m2.fh (T1.mono m2.ff r1) r2 q2.1 Q fun z F3 H3 g3 r3 => k (y, u) z F3 H3 ((m1.trans m2).trans ((ok1.mv m2).grow g3)) r3 q2.2
theorem tk_cmp {op : CmpOp} {a b : Expr} {r : R2} {T1 : Ty X.K α} {T2 : Ty X.K β} {C : α → β → Prop} {f : α → β → Bool} {vl : μ → α} {cs1 : μ → List (Cell X.K)} {M : (μ → Prop) → Prop} {vl2 : μ → ν → β} {cs2 : μ → ν → List (Cell X.K)} {M2 : μ → (ν → Prop) → Prop} (ho : OpR X (compareOp op) r) (hr : R2K r T1 T2 tB C f)
    (ha : EK X Y a ρ cs T1 vl cs1 M) (hb : ∀ y, EK X Y b ρ (cs1 y) T2 (vl2 y) (cs2 y) (M2 y)) (hm : behindInMarks op b = false := by first | exact nomark _ | rfl) : TK X Y (.Compare a [op] [b] pos) ρ cs (fun y : μ × ν => f (vl y.1) (vl2 y.1 y.2)) (fun y => cs2 y.1 y.2) (fun φ => M fun y => M2 y fun u => C (vl y) (vl2 y u) ∧ φ (y, u)) := fun F σ H ok xh φ p Q k => by
  refine wt (pt_cmpR ho pe_w pe_w hm) ?_
  refine ha F σ H ok xh _ p _ fun y v F1 H1 m1 r1 q1 => ?_
  have ok1 := ok.mv m1
  refine hb y F1 σ H1 ok1 (xh.mv m1) _ q1 _ fun u w F2 H2 m2 r2 q2 => ?_
  exact hr F2 H2 v w _ _ m2.fh (T1.mono m2.ff r1) r2 q2.1 _ fun z F3 H3 g3 r3 => ⟨_, r3, k (y, u) F3 H3 ((m1.trans m2).trans ((ok1.mv m2).grow g3)) q2.2⟩
theorem ek_ixL [Inhabited α] {a b : Expr} {T : Ty X.K α} {vl : μ → List α} {cs1 : μ → List (Cell X.K)} {M : (μ → Prop) → Prop} {vl2 : μ → ν → Int} {cs2 : μ → ν → List (Cell X.K)} {M2 : μ → (ν → Prop) → Prop} (ha : EK X Y a ρ cs (tL T) vl cs1 M) (hb : ∀ y, EK X Y b ρ (cs1 y) tI (vl2 y) (cs2 y) (M2 y)) (hs : PlainIx b := by exact fun _ _ => rfl) :
    EK X Y (.Subscript a b pos) ρ cs T (fun y : μ × ν => pyIx (vl y.1) (vl2 y.1 y.2)) (fun y => cs2 y.1 y.2) (fun φ => M fun y => M2 y fun u => IxOk (vl y) (vl2 y u) ∧ φ (y, u)) := fun F σ H ok xh φ p Q k => by
  refine we (pe_ix ix_list pe_w pe_w hs) ?_
  refine ha F σ H ok xh _ p _ fun y v F1 H1 m1 ⟨q, vs, e1, hq, r, z⟩ q1 => ?_
  refine hb y F1 σ H1 (ok.mv m1) (xh.mv m1) _ q1 _ fun u w F2 H2 m2 r2 q2 => ?_
  obtain ⟨x, hx, rx⟩ := rl_atI (Rl.mono m2.ff r) q2.1
  exact ⟨q, vs, _, x, e1, r2, SqL.of ((m2.ff.trans m2.fh) _ _ hq), hx, k (y, u) x F2 H2 (m1.trans m2) rx q2.2⟩
theorem ek_lst {es : List Expr} {T : Ty X.K α} {vl : μ → List α} {cs' : μ → List (Cell X.K)} {M : (μ → Prop) → Prop} (h : AK X Y es ρ cs (tsL T) vl cs' M) (hl : ∀ y, (vl y).length ≤ 1000) : NE X Y (.List es pos) ρ cs T vl cs' M := fun F σ H ok xh φ p Q k => by
  refine we (pe_lst pa_w) ?_
  refine h F σ H ok xh _ p _ fun y vs F1 H1 m r q => ?_
  have hz : vs.length ≤ sizeLine := Nat.le_trans (by rw [Rl.length r]; exact hl y) (by decide)
  refine ⟨hz, fun a ha => ?_⟩
  have g := grow_upd (o := .lst vs) (Grow.refl m.fh) ha
  have ok1 := ok.mv m
  have hH : H a = none := by
    cases e : H a with
    | none => rfl
    | some u =>
      by_cases hx : ∃ c ∈ cs, c.a = a
      · obtain ⟨c, hcm, rfl⟩ := hx
        exact absurd ha (m.st c hcm)
      · rw [m.kp a u e fun c hcm e => hx ⟨c, hcm, e⟩] at ha; cases ha
  refine k y a vs F1 _ (m.trans (ok1.grow g.1)) hH g.2 upd_same (fun c hc e => ?_) r hz q
  obtain ⟨_, o, e1, _⟩ := ok1.cell c hc
  rw [e, ha] at e1; cases e1
end
end MD
/-! MDs: sets of texts made of a list, and sorted. -/
namespace MD
open PySem PySem.Spec PyProof.Rows L2
/-- the text of an entry -/
def txtOf (e : Int × Value) : Str := match e.2 with | .str k _ => k | _ => Str.empty
def TxtE (P : Program) (w : World) (e : Int × Value) : Prop := ∃ k tk, e.2 = Value.str k tk ∧ e.1 = (strKind P w).hash k
/-- at a lies a set of just the texts L -/
def SetX (P : Program) (w : World) (h : Heap) (a : Addr) (L : List Str) : Prop :=
  ∃ o es ep t, h.get? a = some o ∧ o.ExactSet ∧ o.data = .set es ep t ∧ (∀ e ∈ es.toList, TxtE P w e) ∧ es.toList.map txtOf = L ∧ L.Nodup ∧
    es.size < scanBound ∧ t.fits es.size = true ∧ Ris t.place.toList ∧ (w.params.followText "set-order" = true ∨ t.led = true)
section
variable {P : Program} {w : World} {h h' : Heap} {a : Addr} {L : List Str}
theorem SetX.keep (R : SetX P w h a L) (k : ∀ o, h.get? a = some o → h'.get? a = some o) : SetX P w h' a L :=
  let ⟨o, es, ep, t, ho, r⟩ := R; ⟨o, es, ep, t, k o ho, r⟩
theorem SetX.len (R : SetX P w h a L) : ∃ o es ep t, h.get? a = some o ∧ o.data = .set es ep t ∧ es.size = L.length := by
  obtain ⟨o, es, ep, t, ho, _, hd, _, hL, _⟩ := R
  exact ⟨o, es, ep, t, ho, hd, by rw [← hL, List.length_map, Array.length_toList]⟩
end
end MD
namespace MD
open PySem PySem.Spec PyProof.Rows L2
/-! ### views: what is seen of a value at a moment -/
abbrev Vw := Hp → Hp → V → Prop
section
variable {K : PySem.W.Frag} {α β γ : Type}
def sv (T : Ty K α) (x : α) : Vw := fun F _ v => T.rep F v x
/-- a list that stands, frozen or owned -/
def rL (T : Ty K α) (xs : List α) : Vw := fun F H v => ∃ a vs, v = .ref a ∧ H a = some (.lst vs) ∧ Rl T F vs xs ∧ vs.length ≤ sizeLine
/-- .. or known -/
def rK (T : Ty K α) (xs : List α) : Vw := fun F H v => ∃ a vs, v = .ref a ∧ SqL K H a vs ∧ Rl T F vs xs ∧ vs.length ≤ sizeLine
def rU (T : Ty K α) (xs : List α) : Vw := fun F H v => ∃ a vs, v = .ref a ∧ Rd H a (.tup vs) ∧ Rl T F vs xs ∧ vs.length ≤ sizeLine
def rQ (T : Ty K α) (xs : List α) : Vw := fun F H v => ∃ a vs, v = .ref a ∧ (SqL K H a vs ∨ SqT K H a vs) ∧ Rl T F vs xs ∧ vs.length ≤ sizeLine
/-- it stays while things grow -/
def Stays (S : Vw) : Prop := ∀ F H F' H' v, Grow F H F' H' → S F H v → S F' H' v
theorem sv_stays {T : Ty K α} {x : α} : Stays (sv T x) := fun F H F' H' v g h => T.mono g.ff h
theorem rL_stays {T : Ty K α} {xs : List α} : Stays (rL T xs) := fun F H F' H' v g ⟨a, vs, h1, h2, h3, h4⟩ => ⟨a, vs, h1, g.hh _ _ h2, h3.mono g.ff, h4⟩
end
section
variable {X : Cx} {fl : Hp} {B : Hb X.K} {Y : Ec X.K} {ρ : List (Slot X.K)} {cs : List (Cell X.K)} {A R α β γ μ ν : Type} {pos : Pos} {rest : List Stmt} {D : Ends} {e : Expr}
def PV (X : Cx) (e : Expr) (ρ : List (Slot X.K)) (cs : List (Cell X.K)) (S : Vw) (P : Prop) : Prop :=
  ∀ F σ H, Okw ρ cs F σ H → P → ∀ Q : VK, (∀ v F' H', Grow F H F' H' → S F' H' v → Q v H') → WE X e σ H Q
def EV (X : Cx) (Y : Ec X.K) (e : Expr) (ρ : List (Slot X.K)) (cs : List (Cell X.K)) {μ : Type} (S : μ → Vw) (cs' : μ → List (Cell X.K)) (M : (μ → Prop) → Prop) : Prop :=
  ∀ F σ H, Okc ρ cs F σ H → Xh X Y cs F σ H → ∀ φ : μ → Prop, M φ → ∀ Q : VK, (∀ y v F' H', Mv cs F H (cs' y) F' H' → S y F' H' v → φ y → Q v H') → WE X e σ H Q
theorem PK.v {T : Ty X.K α} {x : α} {P : Prop} (h : PK X e ρ cs T x P) : PV X e ρ cs (sv T x) P := h
theorem PV.k {T : Ty X.K α} {x : α} {P : Prop} (h : PV X e ρ cs (sv T x) P) : PK X e ρ cs T x P := h
theorem EK.v {T : Ty X.K α} {vl : μ → α} {cs' : μ → List (Cell X.K)} {M : (μ → Prop) → Prop} (h : EK X Y e ρ cs T vl cs' M) : EV X Y e ρ cs (fun y => sv T (vl y)) cs' M := h
theorem EV.k {T : Ty X.K α} {vl : μ → α} {cs' : μ → List (Cell X.K)} {M : (μ → Prop) → Prop} (h : EV X Y e ρ cs (fun y => sv T (vl y)) cs' M) : EK X Y e ρ cs T vl cs' M := h
theorem PV.to {S S' : Vw} {P C : Prop} (h : PV X e ρ cs S P) (k : ∀ F H v, Same F H → S F H v → S' F H v) : PV X e ρ cs S' P := fun F σ H ok p Q q => h F σ H ok p Q fun v F' H' g s => q v F' H' g (k F' H' v g.fh s)
theorem EV.to {S S' : μ → Vw} {cs' : μ → List (Cell X.K)} {M : (μ → Prop) → Prop} (h : EV X Y e ρ cs S cs' M) (k : ∀ y F H v, Same F H → S y F H v → S' y F H v) : EV X Y e ρ cs S' cs' M := fun F σ H ok xh φ p Q q => h F σ H ok xh φ p Q fun y v F' H' m s => q y v F' H' m (k y F' H' v m.fh s)
/-! lists, frozen and owned -/
theorem PK.l {T : Ty X.K α} {xs : List α} {P : Prop} (h : PK X e ρ cs (tL T) xs P) : PV X e ρ cs (rL T xs) P := fun F σ H ok p Q q => h F σ H ok p Q fun v F' H' g ⟨a, vs, h1, h2, h3, h4⟩ => q v F' H' g ⟨a, vs, h1, g.fh _ _ h2, h3, h4⟩
theorem PK.lk {T : Ty X.K α} {xs : List α} {P : Prop} (h : PK X e ρ cs (tLK T) xs P) : PV X e ρ cs (rK T xs) P := fun F σ H ok p Q q => h F σ H ok p Q fun v F' H' g ⟨a, vs, h1, h2, h3, h4⟩ => q v F' H' g ⟨a, vs, h1, g.fh.seq h2, h3, h4⟩
theorem PK.u {T : Ty X.K α} {xs : List α} {P : Prop} (h : PK X e ρ cs (tU T) xs P) : PV X e ρ cs (rU T xs) P := fun F σ H ok p Q q => h F σ H ok p Q fun v F' H' g ⟨a, vs, h1, h2, h3, h4⟩ => q v F' H' g ⟨a, vs, h1, same_rd g.fh h2, h3, h4⟩
theorem PK.own {T : Ty X.K α} {l : Addr} {xs : List α} {P : Prop} (j : Nat) (h : PK X e ρ cs tR l P) (hc : cs[j]? = Option.some ⟨l, cL T xs⟩) : PV X e ρ cs (rL T xs) P := fun F σ H ok p Q q => h F σ H ok p Q fun v F' H' g h1 => by
  obtain ⟨o, ho, vs, e, r, z⟩ := (ok.grow g).cell _ (List.mem_of_getElem? hc)
  subst e
  exact q v F' H' g ⟨l, vs, h1, ho, r, z⟩
theorem EK.l {T : Ty X.K α} {vl : μ → List α} {cs' : μ → List (Cell X.K)} {M : (μ → Prop) → Prop} (h : EK X Y e ρ cs (tL T) vl cs' M) : EV X Y e ρ cs (fun y => rL T (vl y)) cs' M := fun F σ H ok xh φ p Q q => h F σ H ok xh φ p Q fun y v F' H' m ⟨a, vs, h1, h2, h3, h4⟩ => q y v F' H' m ⟨a, vs, h1, m.fh _ _ h2, h3, h4⟩
theorem NE.l {T : Ty X.K α} {vl : μ → List α} {cs' : μ → List (Cell X.K)} {M : (μ → Prop) → Prop} (h : NE X Y e ρ cs T vl cs' M) : EV X Y e ρ cs (fun y => rL T (vl y)) cs' M := h.ek.l
theorem NK.l {T : Ty X.K α} {xs : List α} {P : Prop} (h : NK X e ρ cs T xs P) : PV X e ρ cs (rL T xs) P := h.pk.l
theorem PV.lk {T : Ty X.K α} {xs : List α} {P : Prop} (h : PV X e ρ cs (rL T xs) P) : PV X e ρ cs (rK T xs) P := PV.to (C := True) h fun F H v _ ⟨a, vs, h1, h2, h3, h4⟩ => ⟨a, vs, h1, SqL.of h2, h3, h4⟩
theorem PV.q {T : Ty X.K α} {xs : List α} {P : Prop} (h : PV X e ρ cs (rL T xs) P) : PV X e ρ cs (rQ T xs) P := PV.to (C := True) h fun F H v _ ⟨a, vs, h1, h2, h3, h4⟩ => ⟨a, vs, h1, .inl (SqL.of h2), h3, h4⟩
theorem PV.kq {T : Ty X.K α} {xs : List α} {P : Prop} (h : PV X e ρ cs (rK T xs) P) : PV X e ρ cs (rQ T xs) P := PV.to (C := True) h fun F H v _ ⟨a, vs, h1, h2, h3, h4⟩ => ⟨a, vs, h1, .inl h2, h3, h4⟩
theorem PV.uq {T : Ty X.K α} {xs : List α} {P : Prop} (h : PV X e ρ cs (rU T xs) P) : PV X e ρ cs (rQ T xs) P := PV.to (C := True) h fun F H v _ ⟨a, vs, h1, h2, h3, h4⟩ => ⟨a, vs, h1, .inr (.inl h2), h3, h4⟩
theorem EV.lk {T : Ty X.K α} {vl : μ → List α} {cs' : μ → List (Cell X.K)} {M : (μ → Prop) → Prop} (h : EV X Y e ρ cs (fun y => rL T (vl y)) cs' M) : EV X Y e ρ cs (fun y => rK T (vl y)) cs' M := h.to fun y F H v _ ⟨a, vs, h1, h2, h3, h4⟩ => ⟨a, vs, h1, SqL.of h2, h3, h4⟩
theorem EV.q {T : Ty X.K α} {vl : μ → List α} {cs' : μ → List (Cell X.K)} {M : (μ → Prop) → Prop} (h : EV X Y e ρ cs (fun y => rL T (vl y)) cs' M) : EV X Y e ρ cs (fun y => rQ T (vl y)) cs' M := h.to fun y F H v _ ⟨a, vs, h1, h2, h3, h4⟩ => ⟨a, vs, h1, .inl (SqL.of h2), h3, h4⟩
/-! ### a built-in function of one thing -/
/-- from a view to a view -/
def U1 (r : List V → Hp → VK → Prop) (S : Vw) (C : Prop) (S' : Vw) : Prop := ∀ F H v, Same F H → S F H v → C → ∀ Q : VK, (∀ z F' H', Grow F H F' H' → S' F' H' z → Q z H') → r [v] H Q
/-- .. to a new list -/
def UN {K : PySem.W.Frag} (r : List V → Hp → VK → Prop) (S : Vw) (C : Prop) (T : Ty K α) (xs : List α) : Prop := ∀ F H v, Same F H → S F H v → C → ∀ Q : VK, (∀ a vs, H a = none → Rl T F vs xs → vs.length ≤ sizeLine → Q (.ref a) (upd H a (.lst vs))) → r [v] H Q
section
variable {nm : Str} {p : Pos} {id : String} {r : List V → Hp → VK → Prop} {S S' : Vw} {P C : Prop} {Se Se' : μ → Vw} {Ce : μ → Prop} {cs' : μ → List (Cell X.K)} {M : (μ → Prop) → Prop}
theorem pv_cb (hc : CallR X (.builtin id) r) (hm : X.mg nm = none) (hv : bootBuiltins nm = some (.builtin id)) (hr : U1 r S C S') (h : PV X e ρ cs S P) (hg : Gl X nm := by rfl) (hn : nm ≠ "__name__" := by decide) (hdb : (nm == ("__debug__" : Str)) = false := by decide)
    (he : starEach (e :: []) X.env = (false, eval e X.env) :: starEach [] X.env := by rfl) (hpl : (backTo pos (starEach [] X.env)).any (·.1) = false := by rfl) : PV X (.Call (.Name nm p) [e] [] pos) ρ cs S' (P ∧ C) := fun F σ H ok q Q k => by
  refine we (pe_callB hc hg hm hv (pa_cons pe_w pa_nil he) hn hdb he hpl) ?_
  refine h F σ H ok q.1 _ fun v F1 H1 g1 s => ?_
  exact hr F1 H1 v g1.fh s q.2 Q fun z F2 H2 g2 s2 => k z F2 H2 (g1.trans g2) s2
theorem pv_ct (hc : CallR X (.type id) r) (hm : X.mg nm = none) (hv : bootBuiltins nm = some (.type id)) (hr : U1 r S C S') (h : PV X e ρ cs S P) (hg : Gl X nm := by rfl) (hn : nm ≠ "__name__" := by decide) (hdb : (nm == ("__debug__" : Str)) = false := by decide)
    (he : starEach (e :: []) X.env = (false, eval e X.env) :: starEach [] X.env := by rfl) (hpl : (backTo pos (starEach [] X.env)).any (·.1) = false := by rfl) : PV X (.Call (.Name nm p) [e] [] pos) ρ cs S' (P ∧ C) := fun F σ H ok q Q k => by
  refine we (pe_callTy hc hg hm hv (pa_cons pe_w pa_nil he) hn hdb he hpl) ?_
  refine h F σ H ok q.1 _ fun v F1 H1 g1 s => ?_
  exact hr F1 H1 v g1.fh s q.2 Q fun z F2 H2 g2 s2 => k z F2 H2 (g1.trans g2) s2
theorem ev_cb (hc : CallR X (.builtin id) r) (hm : X.mg nm = none) (hv : bootBuiltins nm = some (.builtin id)) (hr : ∀ y, U1 r (Se y) (Ce y) (Se' y)) (h : EV X Y e ρ cs Se cs' M) (hg : Gl X nm := by rfl) (hn : nm ≠ "__name__" := by decide) (hdb : (nm == ("__debug__" : Str)) = false := by decide)
    (he : starEach (e :: []) X.env = (false, eval e X.env) :: starEach [] X.env := by rfl) (hpl : (backTo pos (starEach [] X.env)).any (·.1) = false := by rfl) : EV X Y (.Call (.Name nm p) [e] [] pos) ρ cs Se' cs' (fun φ => M fun y => Ce y ∧ φ y) := fun F σ H ok xh φ q Q k => by
  refine we (pe_callB hc hg hm hv (pa_cons pe_w pa_nil he) hn hdb he hpl) ?_
  refine h F σ H ok xh _ q _ fun y v F1 H1 m1 s q1 => ?_
  exact hr y F1 H1 v m1.fh s q1.1 Q fun z F2 H2 g2 s2 => k y z F2 H2 (m1.trans ((ok.mv m1).grow g2)) s2 q1.2
theorem ev_ct (hc : CallR X (.type id) r) (hm : X.mg nm = none) (hv : bootBuiltins nm = some (.type id)) (hr : ∀ y, U1 r (Se y) (Ce y) (Se' y)) (h : EV X Y e ρ cs Se cs' M) (hg : Gl X nm := by rfl) (hn : nm ≠ "__name__" := by decide) (hdb : (nm == ("__debug__" : Str)) = false := by decide)
    (he : starEach (e :: []) X.env = (false, eval e X.env) :: starEach [] X.env := by rfl) (hpl : (backTo pos (starEach [] X.env)).any (·.1) = false := by rfl) : EV X Y (.Call (.Name nm p) [e] [] pos) ρ cs Se' cs' (fun φ => M fun y => Ce y ∧ φ y) := fun F σ H ok xh φ q Q k => by
  refine we (pe_callTy hc hg hm hv (pa_cons pe_w pa_nil he) hn hdb he hpl) ?_
  refine h F σ H ok xh _ q _ fun y v F1 H1 m1 s q1 => ?_
  exact hr y F1 H1 v m1.fh s q1.1 Q fun z F2 H2 g2 s2 => k y z F2 H2 (m1.trans ((ok.mv m1).grow g2)) s2 q1.2
variable {T : Ty X.K α} {xs : List α} {vl : μ → List α}
theorem nk_cb (hc : CallR X (.builtin id) r) (hm : X.mg nm = none) (hv : bootBuiltins nm = some (.builtin id)) (hr : UN r S C T xs) (h : PV X e ρ cs S P) (hg : Gl X nm := by rfl) (hn : nm ≠ "__name__" := by decide) (hdb : (nm == ("__debug__" : Str)) = false := by decide)
    (he : starEach (e :: []) X.env = (false, eval e X.env) :: starEach [] X.env := by rfl) (hpl : (backTo pos (starEach [] X.env)).any (·.1) = false := by rfl) : NK X (.Call (.Name nm p) [e] [] pos) ρ cs T xs (P ∧ C) := fun F σ H ok q Q k => by
  refine we (pe_callB hc hg hm hv (pa_cons pe_w pa_nil he) hn hdb he hpl) ?_
  refine h F σ H ok q.1 _ fun v F1 H1 g1 s => ?_
  refine hr F1 H1 v g1.fh s q.2 Q fun a vs hn r z => ?_
  obtain ⟨g2, hF⟩ := grow_upd (o := .lst vs) g1 hn
  exact k a vs F1 _ g2 (g1.hh.free hn) hF upd_same r z
theorem nk_ct (hc : CallR X (.type id) r) (hm : X.mg nm = none) (hv : bootBuiltins nm = some (.type id)) (hr : UN r S C T xs) (h : PV X e ρ cs S P) (hg : Gl X nm := by rfl) (hn : nm ≠ "__name__" := by decide) (hdb : (nm == ("__debug__" : Str)) = false := by decide)
    (he : starEach (e :: []) X.env = (false, eval e X.env) :: starEach [] X.env := by rfl) (hpl : (backTo pos (starEach [] X.env)).any (·.1) = false := by rfl) : NK X (.Call (.Name nm p) [e] [] pos) ρ cs T xs (P ∧ C) := fun F σ H ok q Q k => by
  refine we (pe_callTy hc hg hm hv (pa_cons pe_w pa_nil he) hn hdb he hpl) ?_
  refine h F σ H ok q.1 _ fun v F1 H1 g1 s => ?_
  refine hr F1 H1 v g1.fh s q.2 Q fun a vs hn r z => ?_
  obtain ⟨g2, hF⟩ := grow_upd (o := .lst vs) g1 hn
  exact k a vs F1 _ g2 (g1.hh.free hn) hF upd_same r z
end
end
/-! ### the order of texts -/
def leS (a b : Str) : Bool := !decide (b.cps.toList < a.cps.toList)
theorem str_ext {a b : Str} (h : a.cps.toList = b.cps.toList) : a = b := by
  cases a; cases b
  simp at h
  rw [h]
def sortS (xs : List Str) : List Str := xs.mergeSort leS
theorem sortS_perm (xs : List Str) : (sortS xs).Perm xs := List.mergeSort_perm xs leS
theorem sortS_mem {xs : List Str} {x : Str} : x ∈ sortS xs ↔ x ∈ xs := (sortS_perm xs).mem_iff
end MD
namespace MD
open PySem PySem.Spec PyProof.Rows L2
section
variable {K : PySem.W.Frag} {α β γ : Type}
theorem strOk_iff {x : Str} : PySem.PyData.strOk x = true ↔ ∀ c ∈ x.cps.toList, c < 0x110000 := by
  unfold PySem.PyData.strOk
  rw [← Array.all_toList, List.all_eq_true]
  simp
theorem strOk_join {sep : Str} {ys : List Str} (h : PySem.PyData.strOk sep = true) (hy : ∀ y ∈ ys, PySem.PyData.strOk y = true) : PySem.PyData.strOk (Str.join sep ys) = true := by
  rw [strOk_iff] at *
  intro c hc
  rcases (mem_join sep c ys).mp hc with ⟨t, ht, h1⟩ | ⟨_, h1⟩
  · exact strOk_iff.mp (hy t ht) c h1
  · exact h c h1
theorem strOk_cut {z : Str} {lo hi : Option Int} (h : PySem.PyData.strOk z = true) : PySem.PyData.strOk (cutS z lo hi) = true := by
  rw [strOk_iff] at *
  intro c hc
  exact h c (List.mem_of_mem_drop (List.mem_of_mem_take (by simpa [cutS] using hc)))
theorem rl_strs {F : Hp} {vs : List V} {xs : List Str} (h : Rl (tS (K := K)) F vs xs) : vs = xs.map V.str ∧ ∀ x ∈ xs, PySem.PyData.strOk x = true := by
  induction h with
  | nil => exact ⟨rfl, fun x hx => (by cases hx)⟩
  | cons r _ ih => exact ⟨by rw [List.map_cons, r.1, ih.1], fun x hx => (List.mem_cons.mp hx).elim (fun e => by rw [e]; exact r.2) (ih.2 x)⟩
theorem rl_ints {F : Hp} {vs : List V} {xs : List Int} (h : Rl (tI (K := K)) F vs xs) : vs = xs.map V.int := by
  induction h with
  | nil => rfl
  | cons r _ ih => rw [List.map_cons, ih]; congr
theorem rl_of_ints {F : Hp} : ∀ {xs : List Int}, Rl (tI (K := K)) F (xs.map V.int) xs
  | [] => .nil
  | x :: xs => .cons rfl rl_of_ints
theorem rl_bls {F : Hp} {vs : List V} {xs : List Bool} (h : Rl (tB (K := K)) F vs xs) : vs = xs.map V.bl := by
  induction h with
  | nil => rfl
  | cons r _ ih => rw [List.map_cons, ih]; congr
/-! ### built-in functions of one thing -/
theorem u_len {T : Ty K α} {xs : List α} : U1 (rLenQ K) (rQ T xs) True (sv (tI (K := K)) (xs.length : Int)) := fun F H v s ⟨a, vs, e, h, r, z⟩ _ Q k => by
  subst e
  exact ⟨a, vs, rfl, h, by rw [Rl.length r]; exact k _ F H (Grow.refl s) rfl⟩
theorem u_lenS {x : Str} : U1 (fun xs H Q => ∃ z, xs = [.str z] ∧ z.length ≤ sizeLine ∧ Q (.int z.length) H) (sv (tS (K := K)) x) (x.length ≤ sizeLine) (sv (tI (K := K)) (x.length : Int)) := fun F H v s h c Q k => ⟨x, by rw [h.1], c, k _ F H (Grow.refl s) rfl⟩
/-- the texts of xs, each once, sorted -/
def setS (xs : List Str) : List Str := sortS xs.eraseDups
theorem nodup_eraseDups [BEq α] [LawfulBEq α] : ∀ (xs : List α), xs.eraseDups.Nodup
  | [] => by simp
  | x :: xs => by
    rw [List.eraseDups_cons]
    refine List.nodup_cons.mpr ⟨fun h => ?_, nodup_eraseDups _⟩
    have := List.mem_eraseDups.mp h
    simp at this
  termination_by xs => xs.length
  decreasing_by
    have := List.length_filter_le (fun b => !b == x) xs
    simp only [List.length_cons]
    omega
theorem perm_of_mem {xs ys : List α} (h1 : xs.Nodup) (h2 : ys.Nodup) (h : ∀ x, x ∈ xs ↔ x ∈ ys) : xs.Perm ys := (List.perm_ext_iff_of_nodup h1 h2).mpr h
theorem u_tupL {T : Ty K α} {xs : List α} : U1 (fun vs H Q => ∃ p ys, vs = [.ref p] ∧ ((SqL K H p ys ∧ ∀ l, H l = none → Q (.ref l) (upd H l (.tup ys))) ∨ (SqT K H p ys ∧ Q (.ref p) H))) (rK T xs) True (sv (tU T) xs) := fun F H v s ⟨a, vs, e, h, r, z⟩ _ Q k => by
  subst e
  refine ⟨a, vs, rfl, .inl ⟨h, fun l hl => ?_⟩⟩
  have g := grow_new s hl (.tup vs)
  exact k _ _ _ g ⟨l, vs, rfl, .inl upd_same, r.mono g.ff, z⟩
theorem u_tupU {T : Ty K α} {xs : List α} : U1 (fun vs H Q => ∃ p ys, vs = [.ref p] ∧ ((SqL K H p ys ∧ ∀ l, H l = none → Q (.ref l) (upd H l (.tup ys))) ∨ (SqT K H p ys ∧ Q (.ref p) H))) (sv (tU T) xs) True (sv (tU T) xs) := fun F H v s ⟨a, vs, e, h, r, z⟩ _ Q k => by
  subst e
  exact ⟨a, vs, rfl, .inr ⟨.inl (same_rd s h), k _ F H (Grow.refl s) ⟨a, vs, rfl, h, r, z⟩⟩⟩
theorem n_list {T : Ty K α} {xs : List α} : UN (fun vs H Q => ∃ p ys, vs = [.ref p] ∧ (SqL K H p ys ∨ SqT K H p ys) ∧ ∀ l, H l = none → Q (.ref l) (upd H l (.lst ys))) (rQ T xs) True T xs := fun F H v s ⟨a, vs, e, h, r, z⟩ _ Q k => by
  subst e
  exact ⟨a, vs, rfl, h, fun l hl => k l vs hl r z⟩
theorem u_all {xs : List Bool} : U1 (rAll K) (rK (tB (K := K)) xs) True (sv (tB (K := K)) (xs.all id)) := fun F H v s ⟨a, vs, e, h, r, z⟩ _ Q k => by
  subst e
  obtain rfl := rl_bls r
  exact ⟨a, xs, rfl, h, k _ F H (Grow.refl s) rfl⟩
theorem u_intB {b : Bool} : U1 (fun xs H Q => (∃ i, xs = [.int i] ∧ Q (.int i) H) ∨ ∃ k, xs = [.bl k] ∧ Q (.int (if k then 1 else 0)) H) (sv (tB (K := K)) b) True (sv (tI (K := K)) (if b then 1 else 0)) := fun F H v s h _ Q k => by
  cases h
  exact .inr ⟨b, rfl, k _ F H (Grow.refl s) rfl⟩
/-! ### flat things in a row -/
structure FT [DecidableEq α] (T : Ty K α) : Prop where
  flat : ∀ F v x, T.rep F v x → flatV v = true
  eqv : ∀ F v w x y, T.rep F v x → T.rep F w y → eqV v w = decide (x = y)
theorem fI : FT (tI (K := K)) := ⟨fun F v x h => by cases h; rfl, fun F v w x y h1 h2 => by
  cases h1; cases h2
  show (x == y) = _
  exact Bool.beq_eq_decide_eq _ _⟩
theorem fS : FT (tS (K := K)) := ⟨fun F v x h => by obtain ⟨e, _⟩ := h; subst e; rfl, fun F v w x y h1 h2 => by
  obtain ⟨e1, _⟩ := h1; obtain ⟨e2, _⟩ := h2
  subst e1; subst e2
  show (x == y) = _
  exact Bool.beq_eq_decide_eq _ _⟩
theorem ft_all [DecidableEq α] {T : Ty K α} (f : FT T) {F : Hp} {vs : List V} {xs : List α} (r : Rl T F vs xs) : vs.all flatV = true := by
  induction r with
  | nil => rfl
  | cons r _ ih => rw [List.all_cons, f.flat _ _ _ r, ih] <;> rfl
theorem ft_in [DecidableEq α] {T : Ty K α} (f : FT T) {F : Hp} {v : V} {x : α} {vs : List V} {xs : List α} (h : T.rep F v x) (r : Rl T F vs xs) : inV v vs = decide (x ∈ xs) := by
  unfold inV
  induction r with
  | nil => simp
  | cons r _ ih =>
    rw [List.any_cons, ih, f.eqv _ _ _ _ _ r h, ← Bool.decide_or]
    exact decide_eq_decide.mpr (by rw [List.mem_cons, eq_comm])
end
section
variable {X : Cx} {fl : Hp} {B : Hb X.K} {Y : Ec X.K} {ρ : List (Slot X.K)} {cs : List (Cell X.K)} {A R α β γ μ ν : Type} {pos : Pos} {rest : List Stmt} {D : Ends} {e : Expr}
theorem pk_in [DecidableEq α] {a b : Expr} {T : Ty X.K α} {x : α} {xs : List α} {P1 P2 : Prop} (f : FT T) (ha : PK X a ρ cs T x P1) (hb : PV X b ρ cs (rQ T xs) P2) (hm : behindInMarks .In b = false := by rfl) : PK X (.Compare a [.In] [b] pos) ρ cs tB (decide (x ∈ xs)) (P1 ∧ P2) := fun F σ H ok p Q k => by
  refine we (pe_cmpR op_in_seq pe_w pe_w hm) ?_
  refine ha F σ H ok p.1 _ fun v F1 H1 g1 r1 => ?_
  refine hb F1 σ H1 (ok.grow g1) p.2 _ fun w F2 H2 g2 ⟨q, vs, e, h, r, z⟩ => ?_
  refine ⟨q, vs, e, h, f.flat _ _ _ r1, ft_all f r, ?_⟩
  rw [ft_in f (T.mono g2.ff r1) r]
  exact k _ F2 H2 (g1.trans g2) rfl
theorem pt_in [DecidableEq α] {a b : Expr} {T : Ty X.K α} {x : α} {xs : List α} {P1 P2 : Prop} (f : FT T) (ha : PK X a ρ cs T x P1) (hb : PV X b ρ cs (rQ T xs) P2) (hm : behindInMarks .In b = false := by rfl) : PTK X (.Compare a [.In] [b] pos) ρ cs (decide (x ∈ xs)) (P1 ∧ P2) := fun F σ H ok p Q k => by
  refine wt (pt_cmpR op_in_seq pe_w pe_w hm) ?_
  refine ha F σ H ok p.1 _ fun v F1 H1 g1 r1 => ?_
  refine hb F1 σ H1 (ok.grow g1) p.2 _ fun w F2 H2 g2 ⟨q, vs, e, h, r, z⟩ => ?_
  refine ⟨q, vs, e, h, f.flat _ _ _ r1, ft_all f r, ?_⟩
  rw [ft_in f (T.mono g2.ff r1) r]
  exact ⟨_, rfl, k F2 H2 (g1.trans g2)⟩
theorem pt_nin [DecidableEq α] {a b : Expr} {T : Ty X.K α} {x : α} {xs : List α} {P1 P2 : Prop} (f : FT T) (ha : PK X a ρ cs T x P1) (hb : PV X b ρ cs (rQ T xs) P2) (hm : behindInMarks .NotIn b = false := by rfl) : PTK X (.Compare a [.NotIn] [b] pos) ρ cs (!decide (x ∈ xs)) (P1 ∧ P2) := fun F σ H ok p Q k => by
  refine wt (pt_cmpR op_notIn_seq pe_w pe_w hm) ?_
  refine ha F σ H ok p.1 _ fun v F1 H1 g1 r1 => ?_
  refine hb F1 σ H1 (ok.grow g1) p.2 _ fun w F2 H2 g2 ⟨q, vs, e, h, r, z⟩ => ?_
  refine ⟨q, vs, e, h, f.flat _ _ _ r1, ft_all f r, ?_⟩
  show ∃ k, V.bl (!inV v vs) = .bl k ∧ Q k H2
  rw [ft_in f (T.mono g2.ff r1) r]
  exact ⟨_, rfl, k F2 H2 (g1.trans g2)⟩
/-! ### items of what stands -/
theorem pk_ixR [Inhabited α] {a b : Expr} {T : Ty X.K α} {xs : List α} {i : Int} {P1 P2 : Prop} (ha : PV X a ρ cs (rK T xs) P1) (hb : PK X b ρ cs tI i P2) (hs : PlainIx b := by exact fun _ _ => rfl) : PK X (.Subscript a b pos) ρ cs T (pyIx xs i) (P1 ∧ P2 ∧ IxOk xs i) := fun F σ H ok p Q k => by
  refine we (pe_ix ix_list pe_w pe_w hs) ?_
  refine ha F σ H ok p.1 _ fun v F1 H1 g1 ⟨q, vs, e1, hq, r, z⟩ => ?_
  refine hb F1 σ H1 (ok.grow g1) p.2.1 _ fun w F2 H2 g2 r2 => ?_
  obtain ⟨u, hu, ru⟩ := rl_atI (Rl.mono g2.ff r) p.2.2
  exact ⟨q, vs, i, u, e1, r2, g2.hh.seq hq, hu, k u F2 H2 (g1.trans g2) ru⟩
theorem atI_signs {z : Str} {i : Int} (hi : IxOk (signs z) i) : ∃ c, atI z.cps.toList i = some c ∧ c ∈ z.cps.toList ∧ pyIx (signs z) i = ⟨#[c]⟩ := by
  have hl : (signs z).length = z.cps.toList.length := by unfold signs; rw [List.length_map]
  unfold IxOk at hi
  rw [hl] at hi
  unfold pyIx atI
  rw [hl]
  have get : ∀ j : Nat, j < z.cps.toList.length → ∃ c, z.cps.toList[j]? = some c ∧ c ∈ z.cps.toList ∧ ((signs z)[j]?).getD default = ⟨#[c]⟩ := fun j hj => by
    refine ⟨z.cps.toList[j], List.getElem?_eq_getElem hj, List.getElem_mem hj, ?_⟩
    unfold signs
    rw [List.getElem?_map, List.getElem?_eq_getElem hj]
    rfl
  by_cases h0 : 0 ≤ i
  · have e : ixN z.cps.toList.length i = some i.toNat := by unfold ixN; rw [if_pos h0, if_pos hi.2]
    rw [e]
    exact get _ (by omega)
  · have e : ixN z.cps.toList.length i = some (i + z.cps.toList.length).toNat := by unfold ixN; rw [if_neg h0, if_pos hi.1]
    rw [e]
    exact get _ (by omega)
/-- a sign of a text -/
theorem pk_ixS {a b : Expr} {z : Str} {i : Int} {P1 P2 : Prop} (ha : PK X a ρ cs tS z P1) (hb : PK X b ρ cs tI i P2) (hs : PlainIx b := by exact fun _ _ => rfl) : PK X (.Subscript a b pos) ρ cs tS (pyIx (signs z) i) (P1 ∧ P2 ∧ z.length ≤ sizeLine ∧ IxOk (signs z) i) := fun F σ H ok p Q k => by
  refine we (pe_ix ix_str pe_w pe_w hs) ?_
  refine ha F σ H ok p.1 _ fun v F1 H1 g1 r1 => ?_
  refine hb F1 σ H1 (ok.grow g1) p.2.1 _ fun w F2 H2 g2 r2 => ?_
  obtain ⟨c, h1, h2, h3⟩ := atI_signs p.2.2.2
  exact ⟨z, i, c, r1.1, r2, p.2.2.1, h1, k _ F2 H2 (g1.trans g2) ⟨by rw [h3], by rw [h3]; exact strOk_sign r1.2 h2⟩⟩
theorem ek_ixS {a b : Expr} {vl : μ → Str} {cs1 : μ → List (Cell X.K)} {M : (μ → Prop) → Prop} {vl2 : μ → ν → Int} {cs2 : μ → ν → List (Cell X.K)} {M2 : μ → (ν → Prop) → Prop} (ha : EK X Y a ρ cs tS vl cs1 M) (hb : ∀ y, EK X Y b ρ (cs1 y) tI (vl2 y) (cs2 y) (M2 y)) (hs : PlainIx b := by exact fun _ _ => rfl) :
    EK X Y (.Subscript a b pos) ρ cs tS (fun y : μ × ν => pyIx (signs (vl y.1)) (vl2 y.1 y.2)) (fun y => cs2 y.1 y.2) (fun φ => M fun y => M2 y fun u => (vl y).length ≤ sizeLine ∧ IxOk (signs (vl y)) (vl2 y u) ∧ φ (y, u)) := fun F σ H ok xh φ p Q k => by
  refine we (pe_ix ix_str pe_w pe_w hs) ?_
  refine ha F σ H ok xh _ p _ fun y v F1 H1 m1 r1 q1 => ?_
  refine hb y F1 σ H1 (ok.mv m1) (xh.mv m1) _ q1 _ fun u w F2 H2 m2 r2 q2 => ?_
  obtain ⟨c, h1, h2, h3⟩ := atI_signs q2.2.1
  exact ⟨_, _, c, r1.1, r2, q2.1, h1, k (y, u) _ F2 H2 (m1.trans m2) ⟨by show V.str _ = V.str (pyIx (signs (vl y)) (vl2 y u)); rw [h3], by show PySem.PyData.strOk (pyIx (signs (vl y)) (vl2 y u)) = true; rw [h3]; exact strOk_sign r1.2 h2⟩ q2.2.2⟩
/-- the n-th of a tuple of written places -/
inductive Nth {K : PySem.W.Frag} : {α β : Type} → Nat → Tys K α → Ty K β → (α → β) → Prop
  | one {α : Type} {T : Ty K α} : Nth 0 (ts1 T) T fun x => x
  | here {α β : Type} {T : Ty K α} {Ts : Tys K β} : Nth 0 (tsC T Ts) T fun x => x.1
  | next {α β γ : Type} {n : Nat} {T : Ty K α} {Ts : Tys K β} {U : Ty K γ} {f : β → γ} : Nth n Ts U f → Nth (n + 1) (tsC T Ts) U fun x => f x.2
theorem Nth.get {K : PySem.W.Frag} {α β : Type} {n : Nat} {Ts : Tys K α} {U : Ty K β} {f : α → β} (h : Nth n Ts U f) : ∀ {F : Hp} {vs : List V} {x : α}, Ts.rep F vs x → ∃ v, vs[n]? = some v ∧ U.rep F v (f x) := by
  induction h with
  | one => intro F vs x ⟨v, e, r⟩; subst e; exact ⟨v, rfl, r⟩
  | here => intro F vs x ⟨v, r, e, h, _⟩; subst e; exact ⟨v, rfl, h⟩
  | next _ ih =>
    intro F vs x ⟨v, r, e, _, h⟩
    subst e
    obtain ⟨u, e1, q⟩ := ih h
    exact ⟨u, by simpa using e1, q⟩
theorem atI_nth {vs : List V} {n : Nat} {v : V} (h : vs[n]? = some v) : atI vs (n : Int) = some v := by
  have hn : n < vs.length := (List.getElem?_eq_some_iff.mp h).1
  unfold atI ixN
  rw [if_pos (Int.natCast_nonneg n), if_pos (by exact_mod_cast hn)]
  simpa using h
theorem pk_ixT {a : Expr} {Ts : Tys X.K α} {U : Ty X.K β} {f : α → β} {x : α} {P1 : Prop} {n : Nat} {j} {p2 : Pos} (hn : Nth n Ts U f) (ha : PK X a ρ cs (tT Ts) x P1) (hs : PlainIx (.Constant (.int n) j p2) := by exact fun _ _ => rfl) : PK X (.Subscript a (.Constant (.int n) j p2) pos) ρ cs U (f x) P1 := fun F σ H ok p Q k => by
  refine we (pe_ix ix_tup pe_w pe_int hs) ?_
  refine ha F σ H ok p _ fun v F1 H1 g1 ⟨q, vs, e1, hq, r⟩ => ?_
  obtain ⟨u, hu, ru⟩ := hn.get r
  exact ⟨q, vs, n, u, e1, rfl, SqT.of (g1.fh _ _ hq), atI_nth hu, k u F1 H1 g1 ru⟩
/-! ### join -/
theorem rq_strs {F H : Hp} {v : V} {ys : List Str} (h : rQ (tS (K := X.K)) ys F H v) : ∃ p, v = .ref p ∧ (SqL X.K H p (ys.map V.str) ∨ SqT X.K H p (ys.map V.str)) ∧ ∀ y ∈ ys, PySem.PyData.strOk y = true := by
  obtain ⟨p, vs, e, h, r, z⟩ := h
  obtain ⟨e1, ok⟩ := rl_strs r
  subst e1
  exact ⟨p, e, h, ok⟩
theorem ek_join {o a : Expr} {sep : Str} {vl : μ → List Str} {cs1 : μ → List (Cell X.K)} {M : (μ → Prop) → Prop} {P1 : Prop} {apos : Pos} (ho : PK X o ρ cs tS sep P1) (ha : EV X Y a ρ cs (fun y => rQ (tS (K := X.K)) (vl y)) cs1 M) (hs : starEach [a] X.env = [(false, eval a X.env)] := by rfl) (hbase : attributeBase o "join" X.env (eval o X.env) = eval o X.env := by rfl) (hline : (apos.endLine == pos.line) = true := by rfl) :
    EK X Y (.Call (.Attribute o "join" apos) [a] [] pos) ρ cs tS (fun y => Str.join sep (vl y)) cs1 (fun φ => P1 ∧ M fun y => ((vl y).map (·.length)).sum + (vl y).length * sep.length ≤ 16777216 ∧ φ y) := fun F σ H ok xh φ p Q k => by
  refine we (pe_join pe_w pe_w hs hbase hline) ?_
  refine ho F σ H ok.w p.1 _ fun v F1 H1 g1 r1 => ⟨⟨sep, r1.1⟩, ?_⟩
  have m0 := ok.grow g1
  refine ha F1 σ H1 (ok.mv m0) (xh.mv m0) _ p.2 _ fun y w F2 H2 m2 s q2 => ?_
  obtain ⟨q, e, h, oky⟩ := rq_strs s
  refine ⟨sep, q, vl y, r1.1, by rw [e], h, q2.1, ?_⟩
  exact k y _ F2 H2 (m0.trans m2) ⟨congrArg V.str (PySem.StrLaws.glued_eq_join sep (vl y)), strOk_join r1.2 oky⟩ q2.2
end
end MD
namespace MD
open PySem PySem.Spec PyProof.Rows L2
section
variable {K : PySem.W.Frag} {α β γ : Type}
/-! ### methods of owned lists -/
theorem Rl.erase {T : Ty K α} {F : Hp} : ∀ {vs : List V} {xs : List α} (i : Nat), Rl T F vs xs → Rl T F (vs.eraseIdx i) (xs.eraseIdx i)
  | _, _, _, .nil => .nil
  | _, _, 0, .cons _ t => t
  | _, _, i + 1, .cons r t => .cons r (Rl.erase i t)
theorem Rl.drop {T : Ty K α} {F : Hp} : ∀ {vs : List V} {xs : List α} (i : Nat), Rl T F vs xs → Rl T F (vs.drop i) (xs.drop i)
  | _, _, 0, h => h
  | _, _, _ + 1, .nil => .nil
  | _, _, i + 1, .cons _ t => Rl.drop i t
theorem Rl.take {T : Ty K α} {F : Hp} : ∀ {vs : List V} {xs : List α} (i : Nat), Rl T F vs xs → Rl T F (vs.take i) (xs.take i)
  | _, _, 0, _ => .nil
  | _, _, _ + 1, .nil => .nil
  | _, _, i + 1, .cons r t => .cons r (Rl.take i t)
theorem ml_pop [Inhabited α] {T : Ty K α} : MLK rPop T (ts0 (K := K)) T (fun xs _ => xs ≠ []) (fun xs _ => xs.dropLast) (fun xs _ => pyIx xs (-1)) := fun F H l vs ws x y s h rl z e c Q k => by
  have e : ws = [] := e
  subst e
  have hl := Rl.length rl
  have hp : 0 < x.length := List.length_pos_iff.mpr c
  obtain ⟨v, hv, rv⟩ := rl_atI (i := -1) rl ⟨by omega, by omega⟩
  refine ⟨l, vs, v, rfl, rfl, h, ?_, ?_⟩
  · unfold atI ixN at hv
    rw [if_neg (by omega), if_pos (by omega)] at hv
    rw [show vs.length - 1 = (-1 + (vs.length : Int)).toNat by omega]
    exact hv
  · refine k v _ ?_ (by rw [List.length_dropLast]; omega) rv
    show Rl T F vs.dropLast x.dropLast
    rw [List.dropLast_eq_take, List.dropLast_eq_take, hl]
    exact Rl.take _ rl
/-! ### plain data -/
structure DT (T : Ty K α) where
  d : α → PyData
  n : Nat
  dp : ∀ F H v x, Same F H → T.rep F v x → Dp K H v (d x)
  lay : ∀ F v x, T.rep F v x → (d x).canLay0 = true
  dep : ∀ x, (d x).depth ≤ n
  eqv : ∀ x y, PyData.eqv (d x) (d y) = true ↔ x = y
structure DTs (T : Tys K α) where
  d : α → List PyData
  n : Nat
  dp : ∀ F H v x, Same F H → T.rep F v x → DpAll K H v (d x)
  lay : ∀ F v x, T.rep F v x → PyData.canLayAll0 (d x) = true
  dep : ∀ x, PyData.depthAll (d x) ≤ n
  eqv : ∀ x y, PyData.eqvAll (d x) (d y) = true ↔ x = y
def dI : DT (tI (K := K)) := ⟨.int, 0, fun F H v x s h => by cases h; exact .int x, fun F v x h => by simp [PyData.canLay0], fun x => by simp [PyData.depth], fun x y => by simp [PyData.eqv]⟩
def dS : DT (tS (K := K)) := ⟨.str, 0, fun F H v x s h => by obtain ⟨e, _⟩ := h; subst e; exact .str x, fun F v x h => by simp only [PyData.canLay0]; exact h.2, fun x => by simp [PyData.depth], fun x y => by simp [PyData.eqv]⟩
theorem dp_all {T : Ty K α} (D : DT T) {F H : Hp} (s : Same F H) : ∀ {vs : List V} {xs : List α}, Rl T F vs xs → DpAll K H vs (xs.map D.d)
  | _, _, .nil => .nil
  | _, _, .cons r t => .cons (D.dp F H _ _ s r) (dp_all D s t)
theorem lay_all {T : Ty K α} (D : DT T) {F : Hp} : ∀ {vs : List V} {xs : List α}, Rl T F vs xs → PyData.canLayAll0 (xs.map D.d) = true
  | _, _, .nil => by simp [PyData.canLayAll0]
  | _, _, .cons r t => by simp only [List.map_cons, PyData.canLayAll0, D.lay _ _ _ r, lay_all D t, Bool.and_self]
theorem dep_all {T : Ty K α} (D : DT T) : ∀ xs : List α, PyData.depthAll (xs.map D.d) ≤ D.n
  | [] => by simp [PyData.depthAll]
  | x :: xs => by simp only [List.map_cons, PyData.depthAll]; exact Nat.max_le.mpr ⟨D.dep x, dep_all D xs⟩
theorem eqv_all {T : Ty K α} (D : DT T) : ∀ xs ys : List α, PyData.eqvAll (xs.map D.d) (ys.map D.d) = true ↔ xs = ys
  | [], [] => by simp [PyData.eqvAll]
  | [], y :: ys => by simp [PyData.eqvAll]
  | x :: xs, [] => by simp [PyData.eqvAll]
  | x :: xs, y :: ys => by simp only [List.map_cons, PyData.eqvAll, Bool.and_eq_true, D.eqv, eqv_all D xs ys, List.cons.injEq]
def dL {T : Ty K α} (D : DT T) : DT (tL T) := ⟨fun xs => .list (xs.map D.d), D.n + 1, fun F H v x s ⟨a, vs, e, h, r, z⟩ => by subst e; exact .lst (SqL.of (s _ _ h)) (dp_all D s r), fun F v x ⟨a, vs, e, h, r, z⟩ => by simp only [PyData.canLay0]; exact lay_all D r,
  fun x => by simp only [PyData.depth]; exact Nat.succ_le_succ (dep_all D x), fun x y => by simp only [PyData.eqv]; exact eqv_all D x y⟩
def dU {T : Ty K α} (D : DT T) : DT (tU T) := ⟨fun xs => .tuple (xs.map D.d), D.n + 1, fun F H v x s ⟨a, vs, e, h, r, z⟩ => by subst e; exact .tup (.inl (same_rd s h)) (dp_all D s r), fun F v x ⟨a, vs, e, h, r, z⟩ => by simp only [PyData.canLay0]; exact lay_all D r,
  fun x => by simp only [PyData.depth]; exact Nat.succ_le_succ (dep_all D x), fun x y => by simp only [PyData.eqv]; exact eqv_all D x y⟩
def ds1 {T : Ty K α} (D : DT T) : DTs (ts1 T) := ⟨fun x => [D.d x], D.n, fun F H v x s ⟨u, e, r⟩ => by subst e; exact .cons (D.dp F H _ _ s r) .nil, fun F v x ⟨u, e, r⟩ => by simp only [PyData.canLayAll0, D.lay _ _ _ r, Bool.and_self],
  fun x => by simp only [PyData.depthAll]; exact Nat.max_le.mpr ⟨D.dep x, Nat.zero_le _⟩, fun x y => by simp only [PyData.eqvAll, Bool.and_true, D.eqv]⟩
def dsC {T : Ty K α} {Ts : Tys K β} (D : DT T) (Ds : DTs Ts) : DTs (tsC T Ts) := ⟨fun x => D.d x.1 :: Ds.d x.2, max D.n Ds.n, fun F H v x s ⟨u, r, e, h1, h2⟩ => by subst e; exact .cons (D.dp F H _ _ s h1) (Ds.dp F H _ _ s h2),
  fun F v x ⟨u, r, e, h1, h2⟩ => by simp only [PyData.canLayAll0, D.lay _ _ _ h1, Ds.lay _ _ _ h2, Bool.and_self], fun x => by simp only [PyData.depthAll]; have := D.dep x.1; have := Ds.dep x.2; omega,
  fun x y => by simp only [PyData.eqvAll, Bool.and_eq_true, D.eqv, Ds.eqv]; exact Prod.ext_iff.symm⟩
def dT {Ts : Tys K α} (D : DTs Ts) : DT (tT Ts) := ⟨fun x => .tuple (D.d x), D.n + 1, fun F H v x s ⟨a, vs, e, h, r⟩ => by subst e; exact .tup (SqT.of (s _ _ h)) (D.dp F H _ _ s r), fun F v x ⟨a, vs, e, h, r⟩ => by simp only [PyData.canLay0]; exact D.lay _ _ _ r,
  fun x => by simp only [PyData.depth]; exact Nat.succ_le_succ (D.dep x), fun x y => by simp only [PyData.eqv]; exact D.eqv x y⟩
/-- a view of plain data -/
def DV (K : PySem.W.Frag) (S : Vw) (d : PyData) : Prop := ∀ F H v, Same F H → S F H v → Dp K H v d ∧ SeqAt.shaped d = true
theorem shaped_of {d : PyData} {n : Nat} (h : d.canLay0 = true) (h2 : d.depth ≤ n) (hn : n ≤ 64) : SeqAt.shaped d = true := by
  unfold SeqAt.shaped
  rw [h, Bool.true_and, decide_eq_true_eq]
  omega
theorem dv_sv {T : Ty K α} (D : DT T) {x : α} (hn : D.n ≤ 64 := by exact Nat.le_of_ble_eq_true rfl) : DV K (sv T x) (D.d x) := fun F H v s h => ⟨D.dp F H v x s h, shaped_of (D.lay _ _ _ h) (D.dep x) hn⟩
theorem dv_rL {T : Ty K α} (D : DT T) {xs : List α} (hn : D.n + 1 ≤ 64 := by exact Nat.le_of_ble_eq_true rfl) : DV K (rL T xs) ((dL D).d xs) := fun F H v s ⟨a, vs, e, h, r, z⟩ => by
  subst e
  exact ⟨.lst (SqL.of h) (dp_all D s r), shaped_of (n := D.n + 1) (by simp only [dL, PyData.canLay0]; exact lay_all D r) (by simp only [dL, PyData.depth]; exact Nat.succ_le_succ (dep_all D xs)) hn⟩
theorem eqv_dec [DecidableEq α] {T : Ty K α} (D : DT T) (x y : α) : PyData.eqv (D.d x) (D.d y) = decide (x = y) := by
  rw [Bool.eq_iff_iff, D.eqv, decide_eq_true_eq]
/-! ### what is of which type -/
def TVw (K : PySem.W.Frag) (S : Vw) (t : String) : Prop := ∀ F H v, Same F H → S F H v → TyX K H v (.type t)
theorem ty_I {x : Int} : TVw K (sv (tI (K := K)) x) "int" := fun F H v s h => by cases h; exact .base (.int x)
theorem ty_U {T : Ty K α} {x : List α} : TVw K (sv (tU T) x) "tuple" := fun F H v s ⟨a, vs, e, h, r, z⟩ => by
  subst e
  rcases same_rd s h with h | ⟨o, h⟩
  · exact .base (.tup h)
  · exact .fTuple h
def cutA (xs : List α) (lo hi : Option Int) : List α := (xs.drop (HT.sIx xs.length 0 lo)).take (HT.sIx xs.length xs.length hi - HT.sIx xs.length 0 lo)
theorem Rl.cut {T : Ty K α} {F : Hp} {vs : List V} {xs : List α} {lo hi : Option Int} (h : Rl T F vs xs) : Rl T F (cutV vs lo hi) (cutA xs lo hi) := by
  unfold cutV cutA
  rw [Rl.length h]
  exact Rl.take _ (Rl.drop _ h)
end
section
variable {X : Cx} {fl : Hp} {B : Hb X.K} {Y : Ec X.K} {ρ : List (Slot X.K)} {cs : List (Cell X.K)} {A R α β γ μ ν : Type} {pos : Pos} {rest : List Stmt} {D : Ends} {e : Expr}
theorem pt_neV {a b : Expr} {S1 S2 : Vw} {d1 d2 : PyData} {r : Bool} {P1 P2 : Prop} (hu : X.A.units + 64 < cLine) (h1 : DV X.K S1 d1) (h2 : DV X.K S2 d2) (st : Stays S1) (he : PyData.eqv d1 d2 = r) (ha : PV X a ρ cs S1 P1) (hb : PV X b ρ cs S2 P2) (hm : behindInMarks .NotEq b = false := by first | exact nomark _ | rfl) :
    PTK X (.Compare a [.NotEq] [b] pos) ρ cs (!r) (P1 ∧ P2) := fun F σ H ok p Q k => by
  refine wt (pt_cmpR (op_neD hu) pe_w pe_w hm) ?_
  refine ha F σ H ok p.1 _ fun v F1 H1 g1 s1 => ?_
  refine hb F1 σ H1 (ok.grow g1) p.2 _ fun w F2 H2 g2 s2 => ?_
  have q1 := h1 F2 H2 v g2.fh (st _ _ _ _ _ g2 s1)
  have q2 := h2 F2 H2 w g2.fh s2
  exact ⟨d1, d2, q1.1, q2.1, q1.2, q2.2, _, rfl, by rw [he]; exact k F2 H2 (g1.trans g2)⟩
theorem pk_isi {a : Expr} {S : Vw} {t c : String} {r : Bool} {P : Prop} {nm cn : Str} {p p2 : Pos} (h : TVw X.K S t) (ha : PV X a ρ cs S P) (hm : X.mg nm = none) (hv : bootBuiltins nm = some (.builtin "isinstance")) (hm2 : X.mg cn = none) (hv2 : bootBuiltins cn = some (.type c)) (hk : kitB t c = some r) (hg : Gl X nm := by rfl) (hg2 : Gl X cn := by rfl) (hn : nm ≠ "__name__" := by decide) (hdb : (nm == ("__debug__" : Str)) = false := by decide)
    (hn2 : cn ≠ "__name__" := by decide) (hdb2 : (cn == ("__debug__" : Str)) = false := by decide)
    (he : starEach (a :: [.Name cn p2]) X.env = (false, eval a X.env) :: starEach [.Name cn p2] X.env := by rfl) (he2 : starEach (.Name cn p2 :: []) X.env = (false, eval (.Name cn p2) X.env) :: starEach [] X.env := by rfl) (hpl : (backTo pos (starEach [.Name cn p2] X.env)).any (·.1) = false := by rfl) :
    PK X (.Call (.Name nm p) [a, .Name cn p2] [] pos) ρ cs tB r P := fun F σ H ok q Q k => by
  refine we (pe_callB call_isi hg hm hv (pa_cons pe_w (pa_cons (pe_bltn (v := .ty c) hg2 hm2 hv2 rfl hn2 hdb2) pa_nil he2) he) hn hdb he hpl) ?_
  refine ha F σ H ok q _ fun v F1 H1 g1 s1 => ?_
  exact ⟨v, .ty c, _, _, r, rfl, .ty c, h F1 H1 v g1.fh s1, kit_ty hk, k _ F1 H1 g1 rfl⟩
/-! ### slices -/
def WO (X : Cx) (e : Option Expr) : TO := fun σ H Q => ∀ pins s, Inv X pins σ H s → wpAny (model X.prog X.w) X.A (evalPart e X.env) (fun u s' => ∃ o H', Inv X pins σ H' s' ∧ IsPart u o ∧ Q o H') X.xe s
theorem po_w {e : Option Expr} : PO X e (WO X e) := ⟨fun pins s σ H Q I h => h pins s I⟩
def PKo (X : Cx) (e : Option Expr) (ρ : List (Slot X.K)) (cs : List (Cell X.K)) (o : Option Int) (P : Prop) : Prop :=
  ∀ F σ H, Okw ρ cs F σ H → P → ∀ Q : Option Int → Hp → Prop, (∀ F' H', Grow F H F' H' → Q o H') → WO X e σ H Q
theorem po_0 : PKo X none ρ cs none True := fun F σ H ok _ Q k => fun pins s I => po_none.run pins s σ H Q I (k F H (Grow.refl ok.same))
theorem po_1 {e : Expr} {i : Int} {P : Prop} (h : PK X e ρ cs tI i P) : PKo X (some e) ρ cs (some i) P := fun F σ H ok p Q k => fun pins s I => (po_some pe_w).run pins s σ H Q I (h F σ H ok p _ fun v F' H' g r => ⟨i, r, k F' H' g⟩)
theorem pk_slS {a : Expr} {lo hi : Option Expr} {z : Str} {l h : Option Int} {P P1 P2 : Prop} {p2 : Pos} (ha : PK X a ρ cs tS z P) (hl : PKo X lo ρ cs l P1) (hh : PKo X hi ρ cs h P2) : PK X (.Subscript a (.Slice lo hi none p2) pos) ρ cs tS (cutS z l h) (P ∧ P1 ∧ P2 ∧ z.length ≤ sizeLine) := fun F σ H ok q Q k => by
  refine we (pe_slice sl_str pe_w po_w po_w) ?_
  refine ha F σ H ok q.1 _ fun v F1 H1 g1 r1 => ?_
  refine hl F1 σ H1 (ok.grow g1) q.2.1 _ fun F2 H2 g2 => ?_
  refine hh F2 σ H2 (ok.grow (g1.trans g2)) q.2.2.1 _ fun F3 H3 g3 => ?_
  exact ⟨z, r1.1, q.2.2.2, k _ F3 H3 ((g1.trans g2).trans g3) ⟨rfl, strOk_cut r1.2⟩⟩
theorem nk_slL {a : Expr} {lo hi : Option Expr} {T : Ty X.K α} {xs : List α} {l h : Option Int} {P P1 P2 : Prop} {p2 : Pos} (ha : PV X a ρ cs (rK T xs) P) (hl : PKo X lo ρ cs l P1) (hh : PKo X hi ρ cs h P2) : NK X (.Subscript a (.Slice lo hi none p2) pos) ρ cs T (cutA xs l h) (P ∧ P1 ∧ P2) := fun F σ H ok q Q k => by
  refine we (pe_slice sl_list pe_w po_w po_w) ?_
  refine ha F σ H ok q.1 _ fun v F1 H1 g1 ⟨b, vs, e, hb, r, z⟩ => ?_
  refine hl F1 σ H1 (ok.grow g1) q.2.1 _ fun F2 H2 g2 => ?_
  refine hh F2 σ H2 (ok.grow (g1.trans g2)) q.2.2 _ fun F3 H3 g3 => ?_
  refine ⟨b, vs, e, (g2.hh.trans g3.hh).seq hb, fun p hp => ?_⟩
  have g := (g1.trans g2).trans g3
  obtain ⟨g4, hF⟩ := grow_upd (o := .lst (cutV vs l h)) g hp
  exact k p _ F3 _ g4 (g.hh.free hp) hF upd_same (Rl.cut (r.mono (g2.ff.trans g3.ff))) (Nat.le_trans (cutV_length ..) z)
/-! ### one behind another -/
theorem nk_cat {a b : Expr} {T : Ty X.K α} {xs ys : List α} {P1 P2 : Prop} (ha : PV X a ρ cs (rL T xs) P1) (hb : PV X b ρ cs (rL T ys) P2) : NK X (.BinOp a .Add b pos) ρ cs T (xs ++ ys) (P1 ∧ P2 ∧ xs.length + ys.length ≤ sizeLine) := fun F σ H ok q Q k => by
  refine we (pe_op op_cat pe_w pe_w) ?_
  refine ha F σ H ok q.1 _ fun v F1 H1 g1 ⟨l, vs, e, h, r, z⟩ => ?_
  refine hb F1 σ H1 (ok.grow g1) q.2.1 _ fun w F2 H2 g2 ⟨m, ws, e2, h2, r2, z2⟩ => ?_
  have hl : vs.length + ws.length ≤ sizeLine := by rw [Rl.length r, Rl.length r2]; exact q.2.2
  refine ⟨l, m, vs, ws, e, e2, g2.hh _ _ h, h2, hl, fun p hp => ?_⟩
  have g := g1.trans g2
  obtain ⟨g4, hF⟩ := grow_upd (o := .lst (vs ++ ws)) g hp
  exact k p _ F2 _ g4 (g.hh.free hp) hF upd_same (Rl.append (r.mono g2.ff) r2) (by rw [List.length_append]; exact hl)
theorem rc_max2 {K : PySem.W.Frag} : RCK (K := K) (fun xs H Q => ∃ i j, xs = [.int i, .int j] ∧ Q (.int (if j > i then j else i)) H) (tsC tI (ts1 tI)) tI yes1 (fun x => if x.2 > x.1 then x.2 else x.1) := fun F H vs x s ⟨v, r, e, h1, u, e2, h2⟩ c Q k => by
  subst e; subst e2; cases h1; cases h2
  exact ⟨_, _, rfl, k _ F H (Grow.refl s) rfl⟩
end
end MD
namespace MD
open PySem PySem.Spec PyProof.Rows L2
section
variable {K : PySem.W.Frag} {κ α β γ : Type}
/-! ### dicts with flat keys -/
structure KT (T : Ty K κ) where
  kf : κ → Key
  inj : ∀ x y, kf x = kf y → x = y
  val : ∀ F v x, T.rep F v x → v = kV (kf x)
def kS : KT (tS (K := K)) := ⟨Sum.inr, fun x y h => Sum.inr.inj h, fun F v x h => h.1⟩
def kI : KT (tI (K := K)) := ⟨Sum.inl, fun x y h => Sum.inl.inj h, fun F v x h => h⟩
def Ent {TK : Ty K κ} (k : KT TK) (T : Ty K α) (F : Hp) (e : Key × V) (p : κ × α) : Prop := e.1 = k.kf p.1 ∧ TK.rep F (kV e.1) p.1 ∧ T.rep F e.2 p.2
def Re {TK : Ty K κ} (k : KT TK) (T : Ty K α) (F : Hp) : List (Key × V) → List (κ × α) → Prop := Paired (Ent k T F)
theorem Re.mono {TK : Ty K κ} {k : KT TK} {T : Ty K α} {F F' : Hp} {es kvs} (e : Same F F') (h : Re k T F es kvs) : Re k T F' es kvs := paired_mono (fun _ _ r => ⟨r.1, TK.mono e r.2.1, T.mono e r.2.2⟩) h
def cD {TK : Ty K κ} (k : KT TK) (T : Ty K α) (kvs : List (κ × α)) : CK K := ⟨fun F o => ∃ es, o = .dK es ∧ Re k T F es kvs ∧ es.length ≤ sizeLine, fun e ⟨es, h, r, z⟩ => ⟨es, h, r.mono e, z⟩⟩
def tD {TK : Ty K κ} (k : KT TK) (T : Ty K α) : Ty K (List (κ × α)) := ⟨fun F v kvs => ∃ a es o, v = .ref a ∧ F a = some (.frz o (.dK es)) ∧ Re k T F es kvs ∧ es.length ≤ sizeLine, fun e ⟨a, es, o, h1, h2, r, z⟩ => ⟨a, es, o, h1, e _ _ h2, r.mono e, z⟩⟩
def rD {TK : Ty K κ} (k : KT TK) (T : Ty K α) (kvs : List (κ × α)) : Vw := fun F H v => ∃ a es, v = .ref a ∧ Rd H a (.dK es) ∧ Re k T F es kvs ∧ es.length ≤ sizeLine
def dget [DecidableEq κ] (kvs : List (κ × α)) (x : κ) : Option α := (kvs.find? fun p => decide (p.1 = x)).map (·.2)
def dput [DecidableEq κ] (kvs : List (κ × α)) (x : κ) (y : α) : List (κ × α) := if (kvs.any fun p => decide (p.1 = x)) = true then kvs.map (fun p => if p.1 = x then (p.1, y) else p) else kvs ++ [(x, y)]
section
variable [DecidableEq κ] {TK : Ty K κ} {k : KT TK} {T : Ty K α} {F : Hp}
theorem kf_dec (k : KT TK) (x y : κ) : decide (k.kf x = k.kf y) = decide (x = y) := decide_eq_decide.mpr ⟨k.inj x y, fun e => by rw [e]⟩
theorem re_val {es : List (Key × V)} {kvs : List (κ × α)} (h : Re k T F es kvs) (x : κ) : (valV es (k.kf x) = none ∧ dget kvs x = none) ∨ ∃ v y, valV es (k.kf x) = some v ∧ dget kvs x = some y ∧ T.rep F v y := by
  induction h with
  | nil => exact .inl ⟨rfl, rfl⟩
  | @cons e p es' kvs' r _ ih =>
    by_cases q : p.1 = x
    · refine .inr ⟨e.2, p.2, ?_, ?_, r.2.2⟩
      · exact valV_pos (by rw [r.1, q])
      · unfold dget; rw [List.find?_cons_of_pos (by simpa using q)]; rfl
    · have e1 : valV (e :: es') (k.kf x) = valV es' (k.kf x) := valV_neg fun z => q (k.inj _ _ (r.1.symm.trans z))
      have e2 : dget (p :: kvs') x = dget kvs' x := by unfold dget; rw [List.find?_cons_of_neg (by simpa using q)]
      rw [e1, e2]
      exact ih
theorem re_any {es : List (Key × V)} {kvs : List (κ × α)} (h : Re k T F es kvs) (x : κ) : (es.any fun kv => decide (kv.1 = k.kf x)) = kvs.any fun p => decide (p.1 = x) := by
  induction h with
  | nil => rfl
  | cons r _ ih => rw [List.any_cons, List.any_cons, ih, r.1, kf_dec]
theorem re_map {es : List (Key × V)} {kvs : List (κ × α)} (h : Re k T F es kvs) {x : κ} {v : V} {y : α} (r : T.rep F v y) : Re k T F (es.map fun kv => if kv.1 = k.kf x then (kv.1, v) else kv) (kvs.map fun p => if p.1 = x then (p.1, y) else p) := by
  induction h with
  | nil => exact .nil
  | @cons e p es' kvs' q _ ih =>
    refine .cons ?_ ih
    by_cases hx : p.1 = x
    · have h1 : e.1 = k.kf x := by rw [q.1, hx]
      show Ent k T F (if e.1 = k.kf x then (e.1, v) else e) (if p.1 = x then (p.1, y) else p)
      rw [if_pos h1, if_pos hx]
      exact ⟨q.1, q.2.1, r⟩
    · have h1 : ¬ e.1 = k.kf x := fun z => hx (k.inj _ _ (q.1.symm.trans z))
      show Ent k T F (if e.1 = k.kf x then (e.1, v) else e) (if p.1 = x then (p.1, y) else p)
      rw [if_neg h1, if_neg hx]
      exact q
theorem re_app {es es' : List (Key × V)} {kvs kvs' : List (κ × α)} (h : Re k T F es kvs) (h' : Re k T F es' kvs') : Re k T F (es ++ es') (kvs ++ kvs') := by
  induction h with
  | nil => exact h'
  | cons r _ ih => exact .cons r ih
theorem re_put {es : List (Key × V)} {kvs : List (κ × α)} (h : Re k T F es kvs) {x : κ} {v : V} {y : α} (hx : TK.rep F (kV (k.kf x)) x) (r : T.rep F v y) : Re k T F (putK es (k.kf x) v) (dput kvs x y) := by
  unfold putK dput
  rw [re_any h x]
  split
  · exact re_map h r
  · exact re_app h (.cons ⟨rfl, hx, r⟩ .nil)
end
theorem Re.length {TK : Ty K κ} {k : KT TK} {T : Ty K α} {F : Hp} {es : List (Key × V)} {kvs : List (κ × α)} (h : Re k T F es kvs) : es.length = kvs.length := Paired.length h
theorem putK_len {kvs : List (Key × V)} {x : Key} {v : V} : (putK kvs x v).length ≤ kvs.length + 1 := by
  unfold putK
  split
  · rw [List.length_map]; exact Nat.le_succ _
  · rw [List.length_append]; exact Nat.le_refl _
/-! ### instances -/
def putS (f : Str) (s : Slot K) : List (Str × Slot K) → List (Str × Slot K)
  | [] => [(f, s)]
  | (g, x) :: r => bif g == f then (g, s) :: r else (g, x) :: putS f s r
theorem FldOk.mono {F F' : Hp} (e : Same F F') : ∀ {fs : List (Str × Slot K)} {vs : List (Str × V)}, FldOk F fs vs → FldOk F' fs vs
  | _, _, .nil => .nil
  | _, _, .cons r t => .cons (r.mono e) (FldOk.mono e t)
theorem FldOk.put {F : Hp} {f : Str} {s : Slot K} {v : V} (h : Slot.ok F s (some v)) : ∀ {fs : List (Str × Slot K)} {vs : List (Str × V)}, FldOk F fs vs → FldOk F (putS f s fs) (putF f v vs)
  | _, _, .nil => .cons h .nil
  | _, _, .cons (n := n) r t => by
    unfold putS putF
    by_cases e : n = f
    · subst e
      rw [if_pos rfl, beq_self_eq_true, cond_true]
      exact .cons h t
    · rw [if_neg e, beq_eq_false_iff_ne.mpr e, cond_false]
      exact .cons r (FldOk.put h t)
theorem FldOk.len {F : Hp} : ∀ {fs : List (Str × Slot K)} {vs : List (Str × V)}, FldOk F fs vs → vs.length = fs.length
  | _, _, .nil => rfl
  | _, _, .cons _ t => by rw [List.length_cons, List.length_cons, t.len]
theorem FldOk.look {F : Hp} {f : Str} : ∀ {fs : List (Str × Slot K)} {vs : List (Str × V)}, FldOk F fs vs → (fs.lookup f = none ∧ vs.lookup f = none) ∨ ∃ s v, fs.lookup f = some s ∧ vs.lookup f = some v ∧ Slot.ok F s (some v)
  | _, _, .nil => .inl ⟨rfl, rfl⟩
  | _, _, .cons (n := n) (s := s) (v := v) r t => by
    by_cases h : f = n
    · subst h
      exact .inr ⟨s, v, List.lookup_cons_self, List.lookup_cons_self, r⟩
    · have hb : (f == n) = false := beq_eq_false_iff_ne.mpr h
      rcases FldOk.look (f := f) t with ⟨h1, h2⟩ | ⟨s', v', h1, h2, q⟩
      · exact .inl ⟨by rw [List.lookup_cons, hb]; exact h1, by rw [List.lookup_cons, hb]; exact h2⟩
      · exact .inr ⟨s', v', by rw [List.lookup_cons, hb]; exact h1, by rw [List.lookup_cons, hb]; exact h2, q⟩
def cI (C : Addr) (fs : List (Str × Slot K)) : CK K := ⟨fun F o => ∃ dx vs, o = .ins C dx vs ∧ FldOk F fs vs, fun e ⟨dx, vs, h, r⟩ => ⟨dx, vs, h, r.mono e⟩⟩
def tIn (C : Addr) (fd : α → List (Str × Slot K)) : Ty K α := ⟨fun F v x => ∃ a dx vs, v = .ref a ∧ F a = some (.ins C dx vs) ∧ FldOk F (fd x) vs, fun e ⟨a, dx, vs, h1, h2, r⟩ => ⟨a, dx, vs, h1, e _ _ h2, r.mono e⟩⟩
/-- an instance that stands -/
def rI' (C : Addr) (fs : List (Str × Slot K)) : Vw := fun F H v => ∃ a dx vs, v = .ref a ∧ H a = some (.ins C dx vs) ∧ FldOk F fs vs
end
section
variable {X : Cx} {fl : Hp} {B : Hb X.K} {Y : Ec X.K} {ρ : List (Slot X.K)} {cs : List (Cell X.K)} {A R κ α β γ μ ν : Type} {pos : Pos} {rest : List Stmt} {D : Ends} {e : Expr}
theorem PK.ins {C : Addr} {fd : α → List (Str × Slot X.K)} {x : α} {P : Prop} (h : PK X e ρ cs (tIn C fd) x P) : PV X e ρ cs (rI' C (fd x)) P := fun F σ H ok p Q q => h F σ H ok p Q fun v F' H' g ⟨a, dx, vs, h1, h2, r⟩ => q v F' H' g ⟨a, dx, vs, h1, g.fh _ _ h2, r⟩
theorem PK.dict {TK : Ty X.K κ} {k : KT TK} {T : Ty X.K α} {kvs : List (κ × α)} {P : Prop} (h : PK X e ρ cs (tD k T) kvs P) : PV X e ρ cs (rD k T kvs) P := fun F σ H ok p Q q => h F σ H ok p Q fun v F' H' g ⟨a, es, o, h1, h2, r, z⟩ => q v F' H' g ⟨a, es, h1, .inr ⟨o, g.fh _ _ h2⟩, r, z⟩
theorem PK.ownD {TK : Ty X.K κ} {k : KT TK} {T : Ty X.K α} {kvs : List (κ × α)} {l : Addr} {P : Prop} (j : Nat) (h : PK X e ρ cs tR l P) (hc : cs[j]? = Option.some ⟨l, cD k T kvs⟩) : PV X e ρ cs (rD k T kvs) P := fun F σ H ok p Q q => h F σ H ok p Q fun v F' H' g h1 => by
  obtain ⟨o, ho, es, e, r, z⟩ := (ok.grow g).cell _ (List.mem_of_getElem? hc)
  subst e
  exact q v F' H' g ⟨l, es, h1, .inl ho, r, z⟩
/-- o.f -/
theorem pk_fld {o : Expr} {f : Str} {C : Addr} {fs : List (Str × Slot X.K)} {T : Ty X.K α} {x : α} {P : Prop} (c : Cls X.K C) (n : NoAttr X.K C f) (h : PV X o ρ cs (rI' C fs) P) (hf : fs.lookup f = some (.val T x) := by rfl) (hb : attributeBase o f X.env (eval o X.env) = eval o X.env := by rfl) : PK X (.Attribute o f pos) ρ cs T x P := fun F σ H ok p Q k => by
  refine we (pe_fld pe_w hb) ?_
  refine h F σ H ok p _ fun v F1 H1 g ⟨a, dx, vs, e, ha, r⟩ => ?_
  rcases r.look (f := f) with ⟨h1, _⟩ | ⟨s, u, h1, h2, q⟩
  · rw [hf] at h1; cases h1
  · rw [hf] at h1
    cases h1
    obtain ⟨u', e1, q⟩ := q
    cases e1
    exact ⟨a, C, dx, vs, u, e, ha, c, n, h2, k u F1 H1 g q⟩
/-- o.f = e, o an owned instance -/
theorem sk_fld {o : Expr} {f : Str} {p1 : Pos} {C x : Addr} {fs : List (Str × Slot X.K)} {T : Ty X.K α} {vl : μ → α} {cs' : μ → List (Cell X.K)} {M : (μ → Prop) → Prop} {φ : μ → α → Prop} (j : Nat) (c : Cls X.K C) (n : NoAttr X.K C f) (he : EK X Y e ρ cs T vl cs' M) (ho : ∀ y, PK X o ρ (cs' y) tR x True) (hc : ∀ y, (cs' y)[j]? = some ⟨x, cI C fs⟩)
    (k : ∀ y z, SK X B Y fl rest ρ ((cs' y).set j ⟨x, cI C (putS f (.val T z) fs)⟩) D (φ y z)) (hl : fs.length < 1000 := by exact Nat.le_of_ble_eq_true rfl) (hs : swapsWith e (some (.Attribute o f p1)) pos.line X.env = pure false := by rfl) :
    SK X B Y fl (.Assign [.Attribute o f p1] e pos :: rest) ρ cs D (M fun y => ∀ z, z = vl y → φ y z) := fun F σ H ok p W tk hx' => by
  refine wb (pss_cons (ps_fld pe_w pe_w hs) pss_w) ?_
  refine he F σ H ok.c (xh_of ok tk hx') _ p _ fun y v F1 H1 m r q => ?_
  have ok1 := ok.to m
  refine ho y F1 σ H1 ok1.c.w trivial _ fun w F2 H2 g r2 => ?_
  have ok2 := ok1.to (ok1.c.grow g)
  obtain ⟨_, ob, hob, dx, vs, e1, rf⟩ := ok2.c.cell _ (List.mem_of_getElem? (hc y))
  subst e1
  refine ⟨x, C, dx, vs, r2, hob, c, n, by rw [rf.len]; exact hl, ?_⟩
  exact k y (vl y) F2 σ _ (ok2.to (mv_upd (k := cI C (putS f (.val T (vl y)) fs)) ok2.c (hc y) (show ∃ dx' vs', HO.ins C dx (putF f v vs) = .ins C dx' vs' ∧ FldOk F2 (putS f (.val T (vl y)) fs) vs' from ⟨dx, _, rfl, rf.put (f := f) (s := .val T (vl y)) ⟨v, rfl, T.mono g.ff r⟩⟩))) (q _ rfl) W tk hx'
/-- a new dict, the last cell -/
def ND (X : Cx) (e : Expr) : Prop := ∀ σ H (Q : VK), (∀ a, H a = none → Q (.ref a) (upd H a (.dK []))) → WE X e σ H Q
theorem nd_new : ND X (.Dict [] [] pos) := fun σ H Q k => we pe_dnewK fun a ha => k a ha
theorem newD_mv {TK : Ty X.K κ} (k : KT TK) (T : Ty X.K α) {F H : Hp} {σ : L2.St} {a : Addr} (ok : Okc ρ cs F σ H) (ha : H a = none) : Mv cs F H (cs ++ [⟨a, cD k T []⟩]) F (upd H a (.dK [])) := by
  have g := grow_upd (o := .dK []) (Grow.refl ok.same) ha
  have m := ok.grow g.1
  refine ⟨m.ff, m.fh, m.fr, m.kp, fun c hc => ?_, ?_, fun c hc => ?_, m.st⟩
  · rcases List.mem_append.mp hc with hc | hc
    · exact m.cell c hc
    · obtain rfl := List.mem_singleton.mp hc
      exact ⟨g.2, _, upd_same, [], rfl, .nil, Nat.zero_le _⟩
  · rw [List.map_append]
    refine List.nodup_append.mpr ⟨m.nd, by simp, fun x hx y hy => ?_⟩
    obtain ⟨c, hc, rfl⟩ := List.mem_map.mp hx
    have : y = a := by simpa using hy
    rw [this]
    intro e
    obtain ⟨_, o, e1, _⟩ := ok.cell c hc
    rw [e, ha] at e1; cases e1
  · rcases List.mem_append.mp hc with hc | hc
    · exact m.nw c hc
    · obtain rfl := List.mem_singleton.mp hc
      exact .inr ha
theorem sk_setD {TK : Ty X.K κ} (kt : KT TK) (T : Ty X.K α) {i : Nat} {nm : Str} {pos' : Pos} {φ : Addr → Prop} (hN : X.N.Nodup) (he : ND X e) (k : ∀ a, SK X B Y fl rest (ρ.set i (.val tR a)) (cs ++ [⟨a, cD kt T []⟩]) D (φ a)) (hi : X.N[i]? = some nm := by rfl)
    (hx : Loc X.env.scope nm := by first | exact Or.inl rfl | exact Or.inr rfl) (hs : swapsWith e (some (.Name nm pos')) pos.line X.env = pure false := by rfl) (hf : X.fn nm = true ∨ X.env.scope.names.lookup nm = some .local := by first | exact .inl rfl | exact .inr rfl) :
    SK X B Y fl (.Assign [.Name nm pos'] e pos :: rest) ρ cs D (∀ a, φ a) := fun F σ H ok p W tk hx' => by
  refine wb (pss_cons (ps_set hN hi hx pe_w hs hf) pss_w) ?_
  refine he σ H _ fun a ha => ?_
  exact k a F _ _ ((ok.to (newD_mv kt T ok.c ha)).set (T := tR) i rfl) (p a) W tk hx'
/-! ### reading dicts -/
section
variable [DecidableEq κ] {TK : Ty X.K κ} {kt : KT TK} {T : Ty X.K α} {kvs : List (κ × α)} {x : κ} {P1 P2 : Prop} {d i : Expr}
theorem pk_dget [Inhabited α] (hu : X.A.units + 1 < cLine) (hd : PV X d ρ cs (rD kt T kvs) P1) (hi : PK X i ρ cs TK x P2) (hs : NoSl i := by exact fun _ _ => rfl) : PK X (.Subscript d i pos) ρ cs T ((dget kvs x).getD default) (P1 ∧ P2 ∧ (dget kvs x).isSome = true) := fun F σ H ok p Q k => by
  refine we (pe_dget hu pe_w pe_w hs) ?_
  refine hd F σ H ok p.1 _ fun v F1 H1 g1 ⟨a, es, e, ha, r, z⟩ => ?_
  refine hi F1 σ H1 (ok.grow g1) p.2.1 _ fun w F2 H2 g2 r2 => ?_
  have ew := kt.val _ _ _ r2
  subst ew
  rcases re_val (r.mono g2.ff) x with ⟨_, h2⟩ | ⟨u, y, h1, h2, q⟩
  · have := p.2.2; rw [h2] at this; cases this
  · exact ⟨a, u, e, .inl ⟨es, kt.kf x, same_rd g2.hh ha, rfl, h1.symm⟩, k u F2 H2 (g1.trans g2) (by rw [h2]; exact q)⟩
theorem re_some {F : Hp} {es : List (Key × V)} (r : Re kt T F es kvs) : (valV es (kt.kf x)).isSome = (dget kvs x).isSome := by
  rcases re_val r x with ⟨h1, h2⟩ | ⟨u, y, h1, h2, q⟩ <;> rw [h1, h2] <;> rfl
theorem pt_din (hu : X.A.units + 1 < cLine) (hi : PK X i ρ cs TK x P2) (hd : PV X d ρ cs (rD kt T kvs) P1) (hm : behindInMarks .In d = false := by rfl) : PTK X (.Compare i [.In] [d] pos) ρ cs (dget kvs x).isSome (P2 ∧ P1) := fun F σ H ok p Q k => by
  refine wt (pt_cmp (pc_din hu pe_w pe_w) hm) ?_
  refine hi F σ H ok p.1 _ fun w F1 H1 g1 r1 => ?_
  refine hd F1 σ H1 (ok.grow g1) p.2 _ fun v F2 H2 g2 ⟨a, es, e, ha, r, z⟩ => ?_
  have ew := kt.val _ _ _ r1
  subst ew
  exact ⟨a, _, e, .inl ⟨es, kt.kf x, ha, rfl, rfl⟩, _, rfl, by rw [re_some r]; exact k F2 H2 (g1.trans g2)⟩
theorem pt_dnin (hu : X.A.units + 1 < cLine) (hi : PK X i ρ cs TK x P2) (hd : PV X d ρ cs (rD kt T kvs) P1) (hm : behindInMarks .NotIn d = false := by rfl) : PTK X (.Compare i [.NotIn] [d] pos) ρ cs (!(dget kvs x).isSome) (P2 ∧ P1) := fun F σ H ok p Q k => by
  refine wt (pt_cmp (pc_dnotin hu pe_w pe_w) hm) ?_
  refine hi F σ H ok p.1 _ fun w F1 H1 g1 r1 => ?_
  refine hd F1 σ H1 (ok.grow g1) p.2 _ fun v F2 H2 g2 ⟨a, es, e, ha, r, z⟩ => ?_
  have ew := kt.val _ _ _ r1
  subst ew
  exact ⟨a, _, e, .inl ⟨es, kt.kf x, ha, rfl, rfl⟩, _, rfl, by rw [re_some r]; exact k F2 H2 (g1.trans g2)⟩
/-- d[i] = e, d an owned dict -/
theorem sk_dput {p1 : Pos} {l : Addr} {vl : μ → α} {cs' : μ → List (Cell X.K)} {M : (μ → Prop) → Prop} {kw : μ → List (κ × α)} {P3 P4 : μ → Prop} {φ : μ → List (κ × α) → Prop} (j : Nat) (hu : X.A.units + 1 < cLine) (he : EK X Y e ρ cs T vl cs' M) (hd : ∀ y, PK X d ρ (cs' y) tR l (P3 y)) (hi : ∀ y, PK X i ρ (cs' y) TK x (P4 y)) (hc : ∀ y, (cs' y)[j]? = some ⟨l, cD kt T (kw y)⟩)
    (k : ∀ y z, SK X B Y fl rest ρ ((cs' y).set j ⟨l, cD kt T z⟩) D (φ y z)) (hs : swapsWith e (some (.Subscript d i p1)) pos.line X.env = pure false := by rfl) :
    SK X B Y fl (.Assign [.Subscript d i p1] e pos :: rest) ρ cs D (M fun y => P3 y ∧ P4 y ∧ (kw y).length < sizeLine ∧ ∀ z, z = dput (kw y) x (vl y) → φ y z) := fun F σ H ok p W tk hx' => by
  refine wb (pss_cons (ps_dput hu pe_w pe_w pe_w hs) pss_w) ?_
  refine he F σ H ok.c (xh_of ok tk hx') _ p _ fun y v F1 H1 m r q => ?_
  have ok1 := ok.to m
  refine hd y F1 σ H1 ok1.c.w q.1 _ fun w F2 H2 g2 r2 => ?_
  have ok2 := ok1.to (ok1.c.grow g2)
  refine hi y F2 σ H2 ok2.c.w q.2.1 _ fun u F3 H3 g3 r3 => ?_
  have ok3 := ok2.to (ok2.c.grow g3)
  have eu := kt.val _ _ _ r3
  subst eu
  obtain ⟨_, ob, hob, es, e1, re, z⟩ := ok3.c.cell _ (List.mem_of_getElem? (hc y))
  subst e1
  have hl : es.length < sizeLine := by rw [re.length]; exact q.2.2.1
  refine ⟨l, _, r2, .inl ⟨es, kt.kf x, hob, rfl, hl, rfl⟩, ?_⟩
  exact k y _ F3 σ _ (ok3.to (mv_upd (k := cD kt T (dput (kw y) x (vl y))) ok3.c (hc y) ⟨_, rfl, re_put re r3 (T.mono (g2.ff.trans g3.ff) r), Nat.le_trans putK_len hl⟩)) (q.2.2.2 _ rfl) W tk hx'
end
end
end MD
namespace MD
open PySem PySem.Spec PyProof.Rows L2
section
variable {X : Cx} {fl : Hp} {B : Hb X.K} {Y : Ec X.K} {ρ : List (Slot X.K)} {cs : List (Cell X.K)} {A R κ α β γ δ μ ν : Type} {pos : Pos} {rest : List Stmt} {D : Ends} {e : Expr}
/-! ### freezing -/
theorem FldOk.set {K : PySem.W.Frag} {F : Hp} {f : Str} {s s2 : Slot K} : ∀ {fs : List (Str × Slot K)} {vs : List (Str × V)} {m : Nat}, FldOk F fs vs → fs[m]? = some (f, s) → (∀ v, Slot.ok F s (some v) → Slot.ok F s2 (some v)) → FldOk F (fs.set m (f, s2)) vs
  | _, _, _, .nil, h, _ => by simp at h
  | _, _, 0, .cons r t, h, k => by simp at h; obtain ⟨rfl, rfl⟩ := h; exact .cons (k _ r) t
  | _, _, m + 1, .cons r t, h, k => .cons r (FldOk.set (m := m) t (by simpa using h) k)
/-! ### walks over dicts -/
/-! ### making, methods -/
/-- the contract of an __init__ that makes a frozen instance of frozen data -/
def Con.ini {K : PySem.W.Frag} {A γ : Type} (Cl : Addr) (fd : γ → List (Str × Slot K)) (ins : A → List (Slot K)) (pre : A → Prop) (f : A → γ) (exc : A → Exn K → Prop) : Con K (Addr × A) γ Unit where
  ins := fun a => .val tR a.1 :: ins a.2
  cin := fun a => [⟨a.1, cI Cl []⟩]
  wp := fun a φ ε => (pre a.2 ∧ ∀ r, r = f a.2 → φ r) ∨ ∃ ex, exc a.2 ex ∧ ε ex
  T := tN
  rv := fun _ => ()
  cout := fun a r => [⟨a.1, cI Cl (fd r)⟩]
  mono := fun _ _ _ _ _ h h' w => w.imp (fun w => ⟨w.1, fun r e => h r (w.2 r e)⟩) fun ⟨ex, h1, h2⟩ => ⟨ex, h1, h' ex h2⟩
/-- C(e, ..), raising nothing: a frozen instance -/
theorem ek_make {k : Nat} {Cl f : Addr} {fd : FuncData} {ps : List Str} {nm : Str} {p : Pos} {es : List Expr} {fdd : γ → List (Str × Slot X.K)} {ins : A → List (Slot X.K)} {pre : A → Prop} {g : A → γ} {exc : A → Exn X.K → Prop} {Ts : Tys X.K β} {vl : μ → β} {cs1 : μ → List (Cell X.K)} {M : (μ → Prop) → Prop} (a : μ → A)
    (Mk' : Mk X.K Cl f) (F : FnOk X.prog X.w X.K X.mg X.base (L2.CX X.prog X.w) k f fd ps (Con.ini Cl fdd ins pre g exc).sp) (hr : Room (k + 1) X.A) (hm : X.mg nm = some (.ref Cl)) (hb : Binds X.K fd ps [])
    (ha : AK X Y (e :: es) ρ cs Ts vl cs1 M) (hi : ∀ y F vs, Ts.rep F vs (vl y) → Prd (fun s v => Slot.ok F s (some v)) (ins (a y)) vs) (hg : Gl X nm := by rfl)
    (hdb : (nm == ("__debug__" : Str)) = false := by decide) (he : starEach (e :: es) X.env = (false, eval e X.env) :: starEach es X.env := by rfl) (hpl : (backTo pos (starEach es X.env)).any (·.1) = false := by rfl) :
    EK X Y (.Call (.Name nm p) (e :: es) [] pos) ρ cs (tIn Cl fdd) (fun y : μ × γ => y.2) (fun y => cs1 y.1) (fun φ => M fun y => pre (a y) ∧ ∀ r, r = g (a y) → φ (y, r)) := fun F0 σ H ok xh φ q Q kk => by
  refine we (pe_make Mk' F hr hg hm hb .nil (E := E0) (passL) pa_w hdb he hpl) ?_
  refine ha F0 σ H ok xh _ q _ fun y vs F1 H1 m1 r1 q1 => fun x dx hx hdx ne => ?_
  have ok1 := ok.mv m1
  have hFx : F1 x = none := by
    cases e : F1 x with
    | none => rfl
    | some u => rw [m1.fh _ _ e] at hx; cases hx
  have hFd : F1 dx = none := by
    cases e : F1 dx with
    | none => rfl
    | some u => rw [m1.fh _ _ e] at hdx; cases hdx
  have hS : Same F1 (upd (upd H1 dx (.own x)) x (.ins Cl dx [])) := fun b u e => by
    rw [upd_ne (fun z => by rw [z, hFx] at e; cases e), upd_ne (fun z => by rw [z, hFd] at e; cases e)]
    exact m1.fh _ _ e
  refine ⟨(x, a y), F1, ?_, hS, fun c hc => ?_, by simp [Con.ini], .inl ⟨q1.1, fun r er v F2 H2 m2 rr => ?_⟩⟩
  · rw [List.append_nil]
    exact .cons ⟨.ref x, rfl, rfl⟩ (hi y F1 vs r1)
  · have : c = ⟨x, cI Cl []⟩ := by simpa [Con.ini] using hc
    subst this
    exact ⟨hFx, _, upd_same, dx, [], rfl, .nil⟩
  · obtain ⟨hF2, o, ho, dx2, fs2, e2, rf⟩ := m2.cell ⟨x, cI Cl (fdd r)⟩ (by simp [Con.ini])
    subst e2
    have hv : v = .non := rr
    refine ⟨hv, ?_⟩
    have keep : ∀ b u, H1 b = some u → H2 b = some u := fun b u e => by
      have n1 : b ≠ x := fun z => by rw [z, hx] at e; cases e
      have n2 : b ≠ dx := fun z => by rw [z, hdx] at e; cases e
      refine m2.kp b u (by rw [upd_ne n1, upd_ne n2]; exact e) fun c hc => ?_
      have : c = ⟨x, cI Cl []⟩ := by simpa [Con.ini] using hc
      subst this
      exact fun z => n1 z.symm
    have g1 : Grow F1 H1 (upd F2 x (.ins Cl dx2 fs2)) H2 := by
      refine ⟨m2.ff.trans (same_upd hF2), fun b u e => ?_, keep, fun b h1 h2 => ?_⟩
      · by_cases hb : b = x
        · subst hb; rw [upd_same] at e; cases e; exact ho
        · rw [upd_ne hb] at e; exact m2.fh _ _ e
      · by_cases hb : b = x
        · rw [hb]; exact hx
        · rw [upd_ne hb] at h2
          have := m2.fr b h1 h2
          rw [upd_ne hb] at this
          by_cases hb2 : b = dx
          · rw [hb2]; exact hdx
          · rw [upd_ne hb2] at this; exact this
    exact kk (y, r) _ _ H2 (m1.trans (ok1.grow g1)) ⟨x, dx2, fs2, rfl, upd_same, rf.mono (same_upd hF2)⟩ (q1.2 r er)
/-! ### ends -/
/-- a way that is never gone -/
theorem sk_never {st : List Stmt} : SK X B Y fl st ρ cs D False := fun F σ H ok p => p.elim
/-- the end of a def without a return -/
theorem sk_end {A R : Type} {C : Con X.K A R Unit} {a : A} {ψ : R → Prop} {b' c' : L2.St → Hp → Prop} (q : R) (hT : ∀ F, C.T.rep F .non (C.rv q)) (hc : C.cout a q = cs) : SK X B Y fl [] ρ cs { retD C a B ψ with bk := b', ct := c' } (ψ q) := fun F σ H ok p W tk hx' =>
  wb pss_nil ⟨q, F, by rw [hc]; exact ok.mv, hT F, p⟩
end
end MD
namespace MD
open PySem PySem.Spec PyProof.Rows L2
/-! ### calls by shape -/
/-- the arguments' types as slots -/
def Sl {K : PySem.W.Frag} {α : Type} (Ts : Tys K α) (ins : α → List (Slot K)) : Prop := ∀ F vs x, Ts.rep F vs x → Prd (fun s v => Slot.ok F s (some v)) (ins x) vs
section
variable {K : PySem.W.Frag} {α β γ δ : Type}
theorem sl0 : Sl (ts0 (K := K)) fun _ => [] := fun F vs x h => by
  have h : vs = [] := h
  subst h
  exact .nil
theorem sl1 {T : Ty K α} : Sl (ts1 T) fun x => [.val T x] := fun F vs x ⟨v, e, r⟩ => by subst e; exact .cons ⟨v, rfl, r⟩ .nil
theorem slC {T : Ty K α} {Ts : Tys K β} {ins : β → List (Slot K)} (h : Sl Ts ins) : Sl (tsC T Ts) fun x => .val T x.1 :: ins x.2 := fun F vs x ⟨v, r, e, h1, h2⟩ => by subst e; exact .cons ⟨v, rfl, h1⟩ (h F r x.2 h2)
/-- one owned list, then frozen things -/
def Con.o1 (T0 : Ty K δ) (ins : α → List (Slot K)) (T : Ty K γ) (pre : List δ → α → Prop) (post : List δ → α → γ → List δ → Prop) : Con K (Addr × List δ × α) (γ × List δ) γ where
  ins := fun a => .val tR a.1 :: ins a.2.2
  cin := fun a => [⟨a.1, cL T0 a.2.1⟩]
  wp := fun a φ _ => pre a.2.1 a.2.2 ∧ ∀ r c, post a.2.1 a.2.2 r c → φ (r, c)
  T := T
  rv := fun r => r.1
  cout := fun a r => [⟨a.1, cL T0 r.2⟩]
  mono := fun _ _ _ _ _ h _ w => ⟨w.1, fun r c e => h (r, c) (w.2 r c e)⟩
/-- frozen things, a new owned list -/
def Con.mk1 (ins : α → List (Slot K)) (T0 : Ty K δ) (pre : α → Prop) (post : α → List δ → Prop) : Con K α (Addr × List δ) Addr where
  ins := ins
  cin := fun _ => []
  wp := fun a φ _ => pre a ∧ ∀ l c, post a c → φ (l, c)
  T := tR
  rv := fun r => r.1
  cout := fun _ r => [⟨r.1, cL T0 r.2⟩]
  mono := fun _ _ _ _ _ h _ w => ⟨w.1, fun l c e => h (l, c) (w.2 l c e)⟩
end
section
variable {X : Cx} {fl : Hp} {B : Hb X.K} {Y : Ec X.K} {ρ : List (Slot X.K)} {cs : List (Cell X.K)} {A R α β γ δ μ ν : Type} {pos : Pos} {rest : List Stmt} {D : Ends} {e : Expr}
theorem pk_fn {k : Nat} {f : Addr} {fd : FuncData} {ps : List Str} {nm : Str} {p : Pos} {es : List Expr} {ins : α → List (Slot X.K)} {T : Ty X.K γ} {pre : α → Prop} {g : α → γ} {Ts : Tys X.K α} {x : α} {Pa : Prop}
    (F : FnOk X.prog X.w X.K X.mg X.base (L2.CX X.prog X.w) k f fd ps (Con.fn ins T pre g).sp) (hs : Sl Ts ins) (hr : Room k X.A) (hm : X.mg nm = some (.ref f)) (hk : PySem.W.keepIn X.K (.ref f) = true) (hb : Binds X.K fd ps [])
    (ha : PAK X (e :: es) ρ cs Ts x Pa) (hg : Gl X nm := by rfl) (hdb : (nm == ("__debug__" : Str)) = false := by decide) (he : starEach (e :: es) X.env = (false, eval e X.env) :: starEach es X.env := by rfl) (hpl : (backTo pos (starEach es X.env)).any (·.1) = false := by rfl) :
    PK X (.Call (.Name nm p) (e :: es) [] pos) ρ cs T (g x) (Pa ∧ pre x) := pk_call x F hr hm hk hb ha (fun F vs h => hs F vs x h) hg hdb he hpl
/-- f(l, ..), l an owned list at j -/
theorem ek_o1 {k : Nat} {f : Addr} {fd : FuncData} {ps : List Str} {nm : Str} {p : Pos} {es : List Expr} {T0 : Ty X.K δ} {ins : α → List (Slot X.K)} {T : Ty X.K γ} {pre : List δ → α → Prop} {post : List δ → α → γ → List δ → Prop} {Ts : Tys X.K α} {vl : μ → α} {cs1 : μ → List (Cell X.K)} {M : (μ → Prop) → Prop} {l : Addr} {c : μ → List δ} (j : Nat)
    (F : FnOk X.prog X.w X.K X.mg X.base (L2.CX X.prog X.w) k f fd ps (Con.o1 T0 ins T pre post).sp) (hs : Sl Ts ins) (hr : Room k X.A) (hm : X.mg nm = some (.ref f)) (hk : PySem.W.keepIn X.K (.ref f) = true) (hb : Binds X.K fd ps [])
    (hl : PK X e ρ cs tR l True) (ha : AK X Y es ρ cs Ts vl cs1 M) (hc : ∀ y, (cs1 y)[j]? = some ⟨l, cL T0 (c y)⟩) (hg : Gl X nm := by rfl) (hdb : (nm == ("__debug__" : Str)) = false := by decide) (he : starEach (e :: es) X.env = (false, eval e X.env) :: starEach es X.env := by rfl) (hpl : (backTo pos (starEach es X.env)).any (·.1) = false := by rfl) :
    EK X Y (.Call (.Name nm p) (e :: es) [] pos) ρ cs T (fun y : μ × γ × List δ => y.2.1) (fun y => (cs1 y.1).set j ⟨l, cL T0 y.2.2⟩) (fun φ => M fun y => pre (c y) (vl y) ∧ ∀ r w, post (c y) (vl y) r w → φ (y, r, w)) := fun F0 σ H ok xh φ q Q kk => by
  refine we (pe_call F hr hg hm hk hb .nil (E := E0) (passL) (pa_cons pe_w pa_w he) hdb he hpl) ?_
  refine hl F0 σ H ok.w trivial _ fun v F1 H1 g1 ev => ?_
  have m0 := ok.grow g1
  refine ha F1 σ H1 (ok.mv m0) (xh.mv m0) _ q _ fun y vs F2 H2 m2 r2 q2 => ?_
  have ok2 := (ok.mv m0).mv m2
  have hv : v = .ref l := ev
  subst hv
  refine ⟨(l, c y, vl y), F2, ?_, m2.fh, fun c0 h0 => ?_, by simp [Con.o1], q2.1, fun r w hp v F3 H3 m3 rr => ?_⟩
  · rw [List.append_nil]
    exact .cons ⟨_, rfl, rfl⟩ (hs F2 vs (vl y) r2)
  · have : c0 = ⟨l, cL T0 (c y)⟩ := by simpa [Con.o1] using h0
    subst this
    exact ok2.cell _ (List.mem_of_getElem? (hc y))
  · have m4 := mv_one (c' := ⟨l, cL T0 w⟩) (more := []) ok2 (hc y) rfl m3
    rw [List.append_nil] at m4
    exact kk (y, r, w) v F3 H3 ((m0.trans m2).trans m4) rr (q2.2 r w hp)
/-- x = f(..), a new owned list -/
theorem ek_mk1 {k : Nat} {f : Addr} {fd : FuncData} {ps : List Str} {nm : Str} {p : Pos} {es : List Expr} {T0 : Ty X.K δ} {ins : α → List (Slot X.K)} {pre : α → Prop} {post : α → List δ → Prop} {Ts : Tys X.K α} {vl : μ → α} {cs1 : μ → List (Cell X.K)} {M : (μ → Prop) → Prop}
    (F : FnOk X.prog X.w X.K X.mg X.base (L2.CX X.prog X.w) k f fd ps (Con.mk1 ins T0 pre post).sp) (hs : Sl Ts ins) (hr : Room k X.A) (hm : X.mg nm = some (.ref f)) (hk : PySem.W.keepIn X.K (.ref f) = true) (hb : Binds X.K fd ps [])
    (ha : AK X Y (e :: es) ρ cs Ts vl cs1 M) (hg : Gl X nm := by rfl) (hdb : (nm == ("__debug__" : Str)) = false := by decide) (he : starEach (e :: es) X.env = (false, eval e X.env) :: starEach es X.env := by rfl) (hpl : (backTo pos (starEach es X.env)).any (·.1) = false := by rfl) :
    EK X Y (.Call (.Name nm p) (e :: es) [] pos) ρ cs tR (fun y : μ × Addr × List δ => y.2.1) (fun y => cs1 y.1 ++ [⟨y.2.1, cL T0 y.2.2⟩]) (fun φ => M fun y => pre (vl y) ∧ ∀ l c, post (vl y) c → φ (y, l, c)) := fun F0 σ H ok xh φ q Q kk => by
  refine we (pe_call F hr hg hm hk hb .nil (E := E0) (passL) pa_w hdb he hpl) ?_
  refine ha F0 σ H ok xh _ q _ fun y vs F1 H1 m1 r1 q1 => ?_
  have ok1 := ok.mv m1
  refine ⟨vl y, F1, by rw [List.append_nil]; exact hs F1 vs (vl y) r1, m1.fh, fun c hc => absurd hc (by simp [Con.mk1]), by simp [Con.mk1], q1.1, fun l c hp v F2 H2 m rr => ?_⟩
  exact kk (y, l, c) v F2 H2 (m1.trans (mv_zero ok1 m)) rr (q1.2 l c hp)
theorem sk_setMk {i : Nat} {nm : Str} {pos' : Pos} {T0 : Ty X.K δ} {cs1 : μ → List (Cell X.K)} {M : (μ × Addr × List δ → Prop) → Prop} {φ : μ → Addr → List δ → Prop} (hN : X.N.Nodup) (he : EK X Y e ρ cs tR (fun y : μ × Addr × List δ => y.2.1) (fun y => cs1 y.1 ++ [⟨y.2.1, cL T0 y.2.2⟩]) M)
    (k : ∀ y l c, SK X B Y fl rest (ρ.set i (.val tR l)) (cs1 y ++ [⟨l, cL T0 c⟩]) D (φ y l c)) (hi : X.N[i]? = some nm := by rfl) (hx : Loc X.env.scope nm := by first | exact Or.inl rfl | exact Or.inr rfl)
    (hs : swapsWith e (some (.Name nm pos')) pos.line X.env = pure false := by rfl) (hf : X.fn nm = true ∨ X.env.scope.names.lookup nm = some .local := by first | exact .inl rfl | exact .inr rfl) :
    SK X B Y fl (.Assign [.Name nm pos'] e pos :: rest) ρ cs D (M fun y => φ y.1 y.2.1 y.2.2) := fun F σ H ok p W tk hx' => by
  refine wb (pss_cons (ps_set hN hi hx pe_w hs hf) pss_w) ?_
  refine he F σ H ok.c (xh_of ok tk hx') _ p _ fun y v F' H' m r q => ?_
  exact k y.1 y.2.1 y.2.2 F' _ H' ((ok.to m).set (T := tR) i r) q W tk hx'
/-! ### returns by shape -/
theorem sk_retO {T0 : Ty X.K δ} {ins : α → List (Slot X.K)} {T : Ty X.K γ} {pre : List δ → α → Prop} {post : List δ → α → γ → List δ → Prop} {a : Addr × List δ × α} {ψ : γ × List δ → Prop} {n b' c' : L2.St → Hp → Prop} {x : γ} {w : List δ} {P : Prop} {r : List Stmt} (he : PK X e ρ cs T x P) (hc : cs = [⟨a.1, cL T0 w⟩]) :
    SK X B Y fl (.Return (some e) pos :: r) ρ cs { retD (Con.o1 T0 ins T pre post) a B ψ with nx := n, bk := b', ct := c' } (P ∧ ψ (x, w)) := sk_ret (C := Con.o1 T0 ins T pre post) (x, w) he rfl hc.symm
theorem sk_retOE {T0 : Ty X.K δ} {ins : α → List (Slot X.K)} {T : Ty X.K γ} {pre : List δ → α → Prop} {post : List δ → α → γ → List δ → Prop} {a : Addr × List δ × α} {ψ : γ × List δ → Prop} {n b' c' : L2.St → Hp → Prop} {vl : μ → γ} {cs' : μ → List (Cell X.K)} {M : (μ → Prop) → Prop} {w : μ → List δ} {r : List Stmt} (he : EK X Y e ρ cs T vl cs' M) (hc : ∀ y, cs' y = [⟨a.1, cL T0 (w y)⟩]) :
    SK X B Y fl (.Return (some e) pos :: r) ρ cs { retD (Con.o1 T0 ins T pre post) a B ψ with nx := n, bk := b', ct := c' } (M fun y => ψ (vl y, w y)) := sk_retE (C := Con.o1 T0 ins T pre post) (fun y => (vl y, w y)) he (fun _ => rfl) fun y => (hc y).symm
/-- return [..], a new owned list -/
theorem sk_retN {ins : α → List (Slot X.K)} {T0 : Ty X.K δ} {pre : α → Prop} {post : α → List δ → Prop} {a : α} {ψ : Addr × List δ → Prop} {n b' c' : L2.St → Hp → Prop} {vl : μ → List δ} {M : (μ → Prop) → Prop} {r : List Stmt} (he : NE X Y e ρ [] T0 vl (fun _ => []) M) :
    SK X B Y fl (.Return (some e) pos :: r) ρ [] { retD (Con.mk1 ins T0 pre post) a B ψ with nx := n, bk := b', ct := c' } (M fun y => ∀ l c, c = vl y → ψ (l, c)) := sk_retE (C := Con.mk1 ins T0 pre post) (fun y : μ × Addr × List δ => (y.2.1, y.2.2)) he.own (fun _ => rfl) fun y => rfl
end
end MD
/-! MDt: enumerate(a tuple). -/
namespace MD
open PySem PySem.Spec PyProof.Rows L2
section
variable {prog : Program} {w : World} {A : Around} {E : Value → Shared → Prop} {s : Shared}
theorem meets_enumB1 {v : Value} {o : Obj} {H : Heap → Prop} (B : Begins v o H) : Meets (Builtin.«enumerate.__new__» ⟨[.type "enumerate", v], []⟩) (fun _ R s => H s.heap ∧
      R (.ok (.ret (.ref (s.heap.push o).objs.size))) { s with heap := (s.heap.push o).push { cls := .type "enumerate", data := .fields #[.none, .bool false, .ref s.heap.objs.size, rawInt 0, .none, .none] } }) :=
  .of_wp fun prog w A R s h => by
    obtain ⟨hp, g, d, tk, os⟩ := s; obtain ⟨h1, h⟩ := h
    have hsub := sub_enumerate
    have q1 : ∀ {A' : Around} {E : Value → Shared → Prop} {Q : Value → Shared → Prop}, Q (.ref hp.objs.size) ⟨hp.push o, g, d, tk, os⟩ → wpAny (model prog w) A' (pyIter v) Q E ⟨hp, g, d, tk, os⟩ := fun q => B.iter prog w _ _ ⟨hp, g, d, tk, os⟩ _ h1 q
    wp_walk using q1
    refine wpAny_stack_any fun st => wpAny_pure ?_
    split
    · rename_i c _ _ _ _ _
      cases (c == Value.type "enumerate")
      · wp_walk using q1
        exact ⟨_, rfl, h⟩
      · wp_walk using q1
        exact ⟨_, rfl, h⟩
    · wp_walk using q1
      exact ⟨_, rfl, h⟩
theorem enum_begins1 {v : Value} {o : Obj} {H : Heap → Prop} {Q : Value → Shared → Prop} (B : Begins v o H) (h1 : H s.heap)
    (h : ∀ h', IsEnum h' (s.heap.objs.size + 1) s.heap.objs.size 0 .none → h'.get? s.heap.objs.size = some o → h'.objs.size = s.heap.objs.size + 2 → (∀ b o, s.heap.get? b = some o → h'.get? b = some o) → Q (.ref (s.heap.objs.size + 1)) { s with heap := h' }) :
    wpAny (model prog w) A (call (.type "enumerate") [v]) Q E s := by
  refine callType_new PySem.F.called_enumerate (by decide) (PySem.F.typeCall_enumerate_1 _) (PySem.F.newCall_enumerate_1 _) (fun obj => PySem.F.args_object_init_2 obj _) PySem.F.entry_enumerate_new (meets_enumB1 B) ⟨h1, ?_⟩
  have hz : (s.heap.push o).objs.size = s.heap.objs.size + 1 := Heap.size_push ..
  show _ ∧ _
  rw [hz]
  let en : Obj := { cls := .type "enumerate", data := .fields #[.none, .bool false, .ref s.heap.objs.size, rawInt 0, .none, .none] }
  have he : IsEnum ((s.heap.push o).push en) (s.heap.objs.size + 1) s.heap.objs.size 0 .none := by
    have q := Heap.get?_push_size (s.heap.push o) (o := en) rfl
    rw [hz] at q; exact q
  exact ⟨⟨_, he, rfl⟩, h _ he (Heap.get?_push_of_some _ (Heap.get?_push_size _ B.free)) (by rw [Heap.size_push, hz]) fun b o x => Heap.get?_push_of_some _ (Heap.get?_push_of_some _ x)⟩
end
/-- the tuple at a, each item in a new pair -/
def IteT (a : Addr) (xs : List V) : It := ⟨fun i H => Rd H a (.tup xs) ∧ i < xs.length, fun i H v H' => ∃ T x, v = .ref T ∧ H T = none ∧ H' = upd H T (.tup [.int (i : Nat), x]) ∧ xs[i]? = some x, fun i H => Rd H a (.tup xs) ∧ xs.length ≤ i⟩
theorem ne_fp {X : Cx} {pins : List (Addr × Obj)} {H : Hp} {it a : Addr} {o : HO} (f : FpOk X pins H it) (h : Rd H a o) : a ≠ it := fun z => by
  rcases h with h | ⟨_, h⟩ <;> rw [z, f.1] at h <;> cases h
theorem turn_enumT {P : Program} {w : World} {K : PySem.W.Frag} {elts : List Expr} {kk : Nat} {tpos : Pos} (a e it : Addr) (xs : List V) :
    Turn P w K (.Tuple elts kk tpos) (IteT a xs) [e, it] e (fun i h => (∃ old, IsEnum h e it ((i : Nat) : Int) old) ∧ h.IsTupleIter it a i ∧ e ≠ it) where
  mem := by simp
  obj := fun i h st b hb => by
    obtain ⟨⟨old, he⟩, ⟨o, ho, hc, hd⟩, _⟩ := st
    rcases (show b = e ∨ b = it by simpa using hb) with z | z
    · rw [z]; exact ⟨_, he, fun v q => nomatch q⟩
    · rw [z]; exact ⟨o, ho, fun v q => by rw [hd] at q; cases q⟩
  keep := fun i h h' st k => ⟨let ⟨old, he⟩ := st.1; ⟨old, k e (by simp) _ he⟩, st.2.1.at fun o q => k it (by simp) o q, st.2.2⟩
  item := by
    intro X hP hw hK hc i pins s σ H E I hf st hg
    subst hP hw hK
    obtain ⟨⟨old, he⟩, hit, hne⟩ := st
    obtain ⟨hq, hlt⟩ := hg
    obtain ⟨its, rv, p, hz⟩ := I.tuple (.inl hq)
    have hai : a ≠ it := ne_fp (hf it (by simp)) hq
    have hae : a ≠ e := ne_fp (hf e (by simp)) hq
    have hel : e < s.heap.objs.size := Heap.lt_size he
    have hil : it < s.heap.objs.size := by obtain ⟨_, q, _⟩ := hit; exact Heap.lt_size q
    have D := Draws.tuple (prog := X.prog) (w := X.w) (A := X.A.in1) (show X.A.in1.handled = none from I.ok.hd hc) it a hai its.toArray
    have hl := rv.length
    refine wpAny_pyNext_enum_itemC D he ⟨hit, p⟩ (by rw [List.size_toArray]; omega) hne (by simp only [List.mem_cons, List.not_mem_nil, or_false, not_or]; exact ⟨hne, fun z => hae z.symm⟩) fun u h' tk hu ho hit' hT hsz hk => ?_
    obtain ⟨x, hx⟩ : ∃ x, xs[i]? = some x := ⟨xs[i], List.getElem?_eq_getElem hlt⟩
    obtain ⟨u', hu', ru⟩ := rv.get hx
    have euu : u = u' := by
      have hu2 : its.toArray[i]? = some u := hu
      rw [List.getElem?_toArray, hu'] at hu2
      exact (Option.some.inj hu2).symm
    subst euu
    refine ⟨_, rfl, wpAny_letOwnedTupleGo_enum (s := { s with heap := h', toks := tk + 1 }) ho fun h'' he' sb => ?_⟩
    have hT2 : h''.get? s.heap.objs.size = some { cls := .type "tuple", data := .seq #[.int i tk, u] } := (sb.2 _ (Nat.ne_of_gt hel)).trans hT
    have new : ObjOk X.prog X.w (upd H s.heap.objs.size (.tup [.int (i : Nat), x])) h'' s.heap.objs.size (.tup [.int (i : Nat), x]) := ⟨by show 2 ≤ sizeLine; decide, [.int i tk, u], .cons ⟨_, rfl⟩ (.cons ru .nil), ⟨_, hT2, rfl, _, rfl⟩⟩
    have I1 : Inv X pins σ (upd H s.heap.objs.size (.tup [.int (i : Nat), x])) { s with heap := h'', toks := tk + 1 } :=
      I.turnedNew (ch := [e, it]) (fun b ob hb q => (sb.2 b (fun z => hb (by simp [z]))).trans (hk b ob (fun z => hb (by simp [z])) (fun z => hb (by simp [z])) q)) hf (Nat.le_refl _) new
    refine ⟨.ref s.heap.objs.size, _, I1, rfl, ⟨_, x, rfl, I.hok.fresh (Nat.le_refl _), rfl, hx⟩, ⟨⟨u, ?_⟩, hit'.1.at fun o q => (sb.2 it (Ne.symm hne)).trans q, hne⟩, fun b hb => ?_⟩
    · have e1 : ((i + 1 : Nat) : Int) = (i : Int) + 1 := by omega
      rw [e1]; exact he'
    · have hb' : b < s.heap.objs.size := by
        rcases (show b = e ∨ b = it by simpa using hb) with z | z
        · rw [z]; exact hel
        · rw [z]; exact hil
      rw [upd_ne (Nat.ne_of_lt hb')]
      exact (hf b hb).1
  done := by
    intro X hP hw hK hc i pins s σ H E I hf st hg
    subst hP hw hK
    obtain ⟨⟨old, he⟩, hit, hne⟩ := st
    obtain ⟨hq, hx⟩ := hg
    obtain ⟨its, rv, p, hz⟩ := I.tuple (.inl hq)
    have hai : a ≠ it := ne_fp (hf it (by simp)) hq
    obtain ⟨f0, f1, f2, f3, f4, f5⟩ := hf it (by simp)
    have hl := rv.length
    have D : Draws X.prog X.w X.A.in1 it [it, a] i (fun _ _ => True) (fun j h => j = i ∧ h.IsTupleIter it a i ∧ h.IsTuple a its.toArray) :=
      ⟨fun _ _ st => let ⟨o, ho, _⟩ := st.2.1; ⟨o, ho⟩, fun _ _ _ st hk => ⟨st.1, st.2.1.at fun o e => hk it (by simp) o e, st.2.2.at fun o e => hk a (by simp) o e⟩, fun j s Q E hj st hQ => absurd st.1 (Nat.ne_of_lt hj),
        fun s Q E st hE => PySem.wpAny_nextOf_tuple_end (show X.A.in1.handled = none from I.ok.hd hc) st.2.1 st.2.2 (by simp; omega) hE⟩
    exact wpAny_pyNext_enum_endD D he ⟨rfl, hit, p⟩ fun h' eb => ⟨rfl, I.turned (t' := s.toks) (fun b o hb q => eb b o hb q) f0 f1 f3 f4 f5⟩
  self := fun A i s Q E st h => let ⟨⟨_, he⟩, _⟩ := st; wpAny_pyIter_enum he h
def iEnumT (ta : TA) : TI := fun σ H R => ta σ H fun vs H1 => ∃ a xs, vs = [.ref a] ∧ Rd H1 a (.tup xs) ∧ R (IteT a xs) H1
section
variable {X : Cx} {e : Expr} {ρ : List (Slot X.K)} {cs : List (Cell X.K)} {α : Type}
theorem pi_enumT {ta : TA} {p pos tpos : Pos} {elts : List Expr} {kk : Nat} (hg : Gl X "enumerate") (hm : X.mg "enumerate" = none) (ha : PA X [e] ta) (hs : starEach [e] X.env = [(false, eval e X.env)] := by rfl) : PI X (.Tuple elts kk tpos) (.Call (.Name "enumerate" p) [e] [] pos) (iEnumT ta) := by
  refine ⟨fun pins s σ H R I h => ?_⟩
  refine Call_ (ld_blt I hg hm boot_enumerate (PyProof.Rows.callWith_type1 (thn (ha.run pos pins s σ H _ I h) fun us s1 ⟨vs, H1, I1, r1, a, xs, ex, hq, q⟩ => ?_) hs rfl))
  subst ex
  cases r1 with
  | cons r rr =>
    cases rr
    cases r
    obtain ⟨its, rv, p', hz⟩ := I1.tuple (.inl hq)
    refine enum_begins1 (begins_tuple a its.toArray) p' fun h' he hit hsz hk => wpAny_pyIter_enum he ?_
    have I2 : Inv X pins σ H1 { s1 with heap := h' } := I1.kept (t' := s1.toks) hk
    refine ⟨s1.heap.objs.size + 1, [s1.heap.objs.size + 1, s1.heap.objs.size], _, _, H1, rfl, I2, turn_enumT a (s1.heap.objs.size + 1) s1.heap.objs.size xs, ⟨⟨.none, he⟩, ⟨_, hit, rfl, rfl⟩, Nat.succ_ne_self _⟩, fun b hb => ?_, q⟩
    have hle : s1.heap.objs.size ≤ b := by
      rcases (show b = s1.heap.objs.size + 1 ∨ b = s1.heap.objs.size by simpa using hb) with z | z
      · rw [z]; exact Nat.le_add_right _ _
      · rw [z]; exact Nat.le_refl _
    exact I1.fpOk hle (I1.hok.fresh hle)
theorem ik_enumT {a : Expr} {T : Ty X.K α} {xs : List α} {P : Prop} {p tpos pos : Pos} {elts : List Expr} {kk : Nat} (hm : X.mg "enumerate" = none) (h : PK X a ρ cs (tU T) xs P) (hg : Gl X "enumerate" := by rfl) (hs : starEach [a] X.env = [(false, eval a X.env)] := by rfl) :
    IK X (.Tuple elts kk tpos) (.Call (.Name "enumerate" p) [a] [] pos) ρ cs (tP tI T) (enumF xs) P := fun F σ H ok q R k => by
  refine wi (pi_enumT hg hm (pa_cons pe_w pa_nil hs) hs) ?_
  refine h F σ H ok q _ fun v F1 H1 g ⟨a, vs, e1, hq, r, z⟩ => ⟨a, vs, by rw [e1], same_rd g.fh hq, k _ F1 H1 g (fun i F2 H2 e1 e2 => ?_) (by rw [enumF_length, ← Rl.length r]; exact z)⟩
  have hq2 := same_rd (e1.trans e2) hq
  refine ⟨fun y hy => ?_, fun hi => ⟨hq2, by rw [Rl.length r]; rw [enumF_length] at hi; exact hi⟩⟩
  obtain ⟨hy1, hy2⟩ := enumF_get hy
  obtain ⟨v, hv, rv⟩ := rl_get r hy2
  refine ⟨⟨hq2, (List.getElem?_eq_some_iff.mp hv).1⟩, fun v' H3 ⟨t, x', ev, hn, eh, hx⟩ => ?_⟩
  rw [hv] at hx
  cases hx
  subst ev; subst eh
  obtain ⟨g2, r2⟩ := grow_tup2 (T1 := tI (K := X.K)) (T2 := T) (x := y.1) (y := y.2) (v := .int (i : Nat)) e2 hn (by rw [hy1]; rfl) (T.mono e1 rv)
  exact ⟨_, g2, r2⟩
end
end MD
namespace MD
open PySem PySem.Spec PyProof.Rows L2
section
variable {X : Cx} {fl : Hp} {B : Hb X.K} {Y : Ec X.K} {ρ : List (Slot X.K)} {cs : List (Cell X.K)} {A R α β γ δ μ ν : Type} {pos : Pos} {rest : List Stmt} {D : Ends} {e : Expr}
theorem tk_val {vl : μ → Bool} {cs' : μ → List (Cell X.K)} {M : (μ → Prop) → Prop} (h : EK X Y e ρ cs tB vl cs' M) (he : ∀ whole, isTrue e X.env whole = (do let v ← whole; standAt e.pos; holding [v] (truthy v)) := by intro _; rfl) : TK X Y e ρ cs vl cs' M := fun F σ H ok xh φ p Q k => by
  refine wt (pt_val pe_w he) ?_
  exact h F σ H ok xh φ p _ fun y v F1 H1 m1 r1 q => ⟨vl y, r1, k y F1 H1 m1 q⟩
theorem tk_not {vl : μ → Bool} {cs' : μ → List (Cell X.K)} {M : (μ → Prop) → Prop} (h : TK X Y e ρ cs vl cs' M) : TK X Y (.UnaryOp .Not e pos) ρ cs (fun y => !vl y) cs' M := fun F σ H ok xh φ p Q k => by
  refine wt (pt_not pt_w) ?_
  exact h F σ H ok xh φ p _ fun y F1 H1 m1 q => k y F1 H1 m1 q
theorem ek_tup {es : List Expr} {x1} {Ts : Tys X.K α} {vl : μ → α} {cs' : μ → List (Cell X.K)} {M : (μ → Prop) → Prop} (h : AK X Y es ρ cs Ts vl cs' M) (hl : ∀ F vs x, Ts.rep F vs x → vs.length ≤ 1000) : EK X Y (.Tuple es x1 pos) ρ cs (tT Ts) vl cs' M := fun F σ H ok xh φ p Q k => by
  refine we (pe_tup pa_w) ?_
  refine h F σ H ok xh φ p _ fun y vs F1 H1 m r q => ⟨Nat.le_trans (hl F1 vs _ r) (by decide), fun a ha => ?_⟩
  have g2 := grow_new m.fh ha (.tup vs)
  exact k y _ _ _ (m.trans ((ok.mv m).grow g2)) ⟨a, vs, rfl, upd_same, Ts.mono g2.ff r⟩ q
theorem sk_retFE {ins : A → List (Slot X.K)} {T : Ty X.K γ} {pre : A → Prop} {f : A → γ} {a : A} {ψ : γ → Prop} {n b' c' : L2.St → Hp → Prop} {vl : μ → γ} {cs' : μ → List (Cell X.K)} {M : (μ → Prop) → Prop} {r : List Stmt} (he : EK X Y e ρ cs T vl cs' M) (hc : ∀ y, cs' y = []) :
    SK X B Y fl (.Return (some e) pos :: r) ρ cs { retD (Con.fn ins T pre f) a B ψ with nx := n, bk := b', ct := c' } (M fun y => ψ (vl y)) := sk_retE (C := Con.fn ins T pre f) vl he (fun _ => rfl) fun y => (hc y).symm
theorem sk_drop {st : List Stmt} {φ : Prop} (j : Nat) (k : SK X B Y fl st ρ (cs.eraseIdx j) D φ) : SK X B Y fl st ρ cs D φ := fun F σ H ok p W tk hx' =>
  k F σ H ⟨ok.env, ⟨ok.mv.ff, ok.mv.fh, ok.mv.fr, ok.mv.kp, fun c hc => ok.mv.cell c (List.mem_of_mem_eraseIdx hc), ok.mv.nd.sublist ((List.eraseIdx_sublist _ _).map _), fun c hc => ok.mv.nw c (List.mem_of_mem_eraseIdx hc), ok.mv.st⟩, ok.flo⟩ p W tk hx'
/-! ### what is known of a callee, of a class -/
structure Cal (P : Program) (w : World) (K : PySem.W.Frag) (mg : Str → Option Value) (base : Heap) (nm : Str) (k : Nat) (ps : List Str) (sp : Sp) (f : Addr) (fd : FuncData) : Prop where
  F : FnOk P w K mg base (L2.CX P w) k f fd ps sp
  m : mg nm = some (.ref f)
  k : PySem.W.keepIn K (.ref f) = true
  b : Binds K fd ps []
structure MkC (P : Program) (w : World) (K : PySem.W.Frag) (mg : Str → Option Value) (base : Heap) (C : Addr) (nm : Str) (k : Nat) (ps : List Str) (sp : Sp) (f : Addr) (fd : FuncData) : Prop where
  F : FnOk P w K mg base (L2.CX P w) k f fd ps sp
  m : mg nm = some (.ref C)
  mm : Mk K C f
  b : Binds K fd ps []
theorem ek_makeS {k : Nat} {Cl f : Addr} {fd : FuncData} {ps : List Str} {nm : Str} {p : Pos} {es : List Expr} {fdd : γ → List (Str × Slot X.K)} {ins : α → List (Slot X.K)} {pre : α → Prop} {g : α → γ} {exc : α → Exn X.K → Prop} {Ts : Tys X.K α} {vl : μ → α} {cs1 : μ → List (Cell X.K)} {M : (μ → Prop) → Prop}
    (c : MkC X.prog X.w X.K X.mg X.base Cl nm k ps (Con.ini Cl fdd ins pre g exc).sp f fd) (hr : Room (k + 1) X.A) (hs : Sl Ts ins) (ha : AK X Y (e :: es) ρ cs Ts vl cs1 M) (hg : Gl X nm := by rfl)
    (hdb : (nm == ("__debug__" : Str)) = false := by decide) (he : starEach (e :: es) X.env = (false, eval e X.env) :: starEach es X.env := by rfl) (hpl : (backTo pos (starEach es X.env)).any (·.1) = false := by rfl) :
    EK X Y (.Call (.Name nm p) (e :: es) [] pos) ρ cs (tIn Cl fdd) (fun y : μ × γ => y.2) (fun y => cs1 y.1) (fun φ => M fun y => pre (vl y) ∧ ∀ r, r = g (vl y) → φ (y, r)) :=
  ek_make vl c.mm c.F hr c.m c.b ha (fun y F vs h => hs F vs (vl y) h) hg hdb he hpl
/-- __init__'s end -/
theorem sk_endI {γ : Type} {Cl : Addr} {fd : γ → List (Str × Slot X.K)} {ins : A → List (Slot X.K)} {pre : A → Prop} {f : A → γ} {exc : A → Exn X.K → Prop} {a : Addr × A} {ψ : γ → Prop} {b' c' : L2.St → Hp → Prop} (q : γ) (hc : [⟨a.1, cI Cl (fd q)⟩] = cs) :
    SK X B Y fl [] ρ cs { retD (Con.ini Cl fd ins pre f exc) a B ψ with bk := b', ct := c' } (ψ q) := sk_end (C := Con.ini Cl fd ins pre f exc) q (fun _ => rfl) hc
theorem sk_st {st : List Stmt} {φ : Prop} {ρ2 : List (Slot X.K)} {cs2 : List (Cell X.K)} (h1 : ρ = ρ2) (h2 : cs = cs2) (k : SK X B Y fl st ρ2 cs2 D φ) : SK X B Y fl st ρ cs D φ := by subst h1; subst h2; exact k
theorem ek_ixR [Inhabited α] {a b : Expr} {T : Ty X.K α} {vl : μ → List α} {cs1 : μ → List (Cell X.K)} {M : (μ → Prop) → Prop} {i : Int} {P2 : Prop} (ha : EV X Y a ρ cs (fun y => rK T (vl y)) cs1 M) (hb : ∀ y, PK X b ρ (cs1 y) tI i P2) (hs : PlainIx b := by exact fun _ _ => rfl) :
    EK X Y (.Subscript a b pos) ρ cs T (fun y => pyIx (vl y) i) cs1 (fun φ => M fun y => P2 ∧ IxOk (vl y) i ∧ φ y) := fun F σ H ok xh φ p Q k => by
  refine we (pe_ix ix_list pe_w pe_w hs) ?_
  refine ha F σ H ok xh _ p _ fun y v F1 H1 m1 ⟨q, vs, e1, hq, r, z⟩ q1 => ?_
  refine hb y F1 σ H1 (ok.mv m1).w q1.1 _ fun w F2 H2 g2 r2 => ?_
  obtain ⟨u, hu, ru⟩ := rl_atI (Rl.mono g2.ff r) q1.2.1
  exact ⟨q, vs, i, u, e1, r2, g2.hh.seq hq, hu, k y u F2 H2 (m1.trans ((ok.mv m1).grow g2)) ru q1.2.2⟩
theorem sk_midX {ρ' : β → List (Slot X.K)} {cs' : β → List (Cell X.K)} {R : β → Prop} {z : β} (hn : D.nx = Mid B fl ρ' cs' R) (h : Le ρ (ρ' z)) (hc : cs = cs' z) : SK X B Y fl [] ρ cs D (R z) := fun F σ H ok p W tk hx' => by
  subst hc
  refine wb pss_nil ?_
  show D.nx σ H
  rw [hn]
  exact ⟨z, F, ⟨h.env ok.env, ok.mv, ok.flo⟩, p⟩
theorem sk_nilX {φ : Prop} {D' : Ends} (hn : D.nx = WB X rest D') (k : SK X B Y fl rest ρ cs D' φ) : SK X B Y fl [] ρ cs D φ := fun F σ H ok p W tk hx' => by
  refine wb pss_nil ?_
  show D.nx σ H
  rw [hn]
  exact k F σ H ok p W tk hx'
/-! ### chains of tests with effects -/
def TWK (X : Cx) (Y : Ec X.K) (e : Expr) (ρ : List (Slot X.K)) (cs : List (Cell X.K)) {μ : Type} (vl : μ → Bool) (cs' : μ → List (Cell X.K)) (M : (μ → Prop) → Prop) : Prop :=
  ∀ F σ H, Okc ρ cs F σ H → Xh X Y cs F σ H → ∀ φ : μ → Prop, M φ → ∀ Q : Bool → Hp → Prop, (∀ y F' H', Mv cs F H (cs' y) F' H' → φ y → Q (vl y) H') → WW X e σ H Q
section
variable {vl : μ → Bool} {cs1 : μ → List (Cell X.K)} {M : (μ → Prop) → Prop} {vl2 : μ → ν → Bool} {cs2 : μ → ν → List (Cell X.K)} {M2 : μ → (ν → Prop) → Prop} {a b : Expr} {more : List Expr}
theorem tw_and1 (h : TK X Y a ρ cs vl cs1 M) : TWK X Y (.BoolOp .And [a] pos) ρ cs vl cs1 M := fun F σ H ok xh φ p Q k => ww (L2.pw_and1 pt_w) (h F σ H ok xh φ p Q k)
theorem TWK.tk (h : TWK X Y e ρ cs vl cs1 M) : TK X Y e ρ cs vl cs1 M := fun F σ H ok xh φ p Q k => wt pw_w.pt (h F σ H ok xh φ p Q k)
end
end
end MD
namespace MD
open PySem PySem.Spec PyProof.Rows L2
end MD
namespace MD
open PySem PySem.Spec PyProof.Rows L2
section
variable {X : Cx} {fl : Hp} {B : Hb X.K} {Y : Ec X.K} {ρ : List (Slot X.K)} {cs : List (Cell X.K)} {A R α β γ δ μ ν : Type} {pos : Pos} {rest : List Stmt} {D : Ends} {e : Expr} {es : List Expr} {t : TA}
def tUF {K : PySem.W.Frag} (T : Ty K α) : Ty K (List α) := ⟨fun F v xs => ∃ a vs o, v = .ref a ∧ F a = some (.frz o (.tup vs)) ∧ o.dict = none ∧ Rl T F vs xs ∧ vs.length ≤ sizeLine, fun e ⟨a, vs, o, h1, h2, hd, h3, h4⟩ => ⟨a, vs, o, h1, e _ _ h2, hd, h3.mono e, h4⟩⟩
theorem PK.uf {T : Ty X.K α} {xs : List α} {P : Prop} (h : PK X e ρ cs (tUF T) xs P) : PK X e ρ cs (tU T) xs P := fun F σ H ok p Q k => h F σ H ok p Q fun v F' H' g ⟨a, vs, o, h1, h2, hd, h3, h4⟩ => k v F' H' g ⟨a, vs, h1, .inr ⟨o, h2⟩, h3, h4⟩
end
end MD
namespace MD
open PySem PySem.Spec PyProof.Rows L2
section
variable {X : Cx} {fl : Hp} {B : Hb X.K} {Y : Ec X.K} {ρ : List (Slot X.K)} {cs : List (Cell X.K)} {A R α β γ δ μ ν : Type} {pos : Pos} {rest : List Stmt} {D : Ends} {e : Expr}
/-! ### chains of two comparisons -/
theorem pt_chain' {op op' : CmpOp} {a b c : Expr} {r r' : R2} {T1 : Ty X.K α} {T2 : Ty X.K β} {T3 : Ty X.K γ} {C : α → β → Prop} {C' : β → γ → Prop} {f : α → β → Bool} {g : β → γ → Bool} {x : α} {y : β} {z : γ} {P1 P2 P3 : Prop} (ho : OpR X (compareOp op) r) (hr : R2K r T1 T2 tB C f) (ho' : OpR X (compareOp op') r') (hr' : R2K r' T2 T3 tB C' g)
    (ha : PK X a ρ cs T1 x P1) (hb : PK X b ρ cs T2 y P2) (hc : PK X c ρ cs T3 z P3) (hm : lastMarks [op, op'] [b, c] = false := by with_unfolding_all rfl) : PTK X (.Compare a [op, op'] [b, c] pos) ρ cs (f x y && g y z) (P1 ∧ P2 ∧ C x y ∧ (f x y = true → P3 ∧ C' y z)) := fun F σ H ok p Q k => by
  refine wt (L2.pt_chain ho ho' pe_w pe_w pe_w hm) ?_
  refine ha F σ H ok p.1 _ fun v F1 H1 g1 r1 => ?_
  refine hb F1 σ H1 (ok.grow g1) p.2.1 _ fun w F2 H2 g2 r2 => ?_
  refine hr F2 H2 v w x y g2.fh (T1.mono g2.ff r1) r2 p.2.2.1 _ fun u F3 H3 g3 r3 => ⟨f x y, r3, ?_⟩
  have ok3 := ok.grow ((g1.trans g2).trans g3)
  cases hf : f x y with
  | false =>
    rw [hf, Bool.false_and] at k
    exact (if_neg Bool.false_ne_true).mpr ⟨false, rfl, k F3 H3 ((g1.trans g2).trans g3)⟩
  | true =>
    rw [hf, Bool.true_and] at k
    refine (if_pos rfl).mpr ?_
    refine hc F3 σ H3 ok3 (p.2.2.2 hf).1 _ fun w2 F4 H4 g4 r4 => ?_
    refine hr' F4 H4 w w2 y z g4.fh (T2.mono (g3.ff.trans g4.ff) r2) r4 (p.2.2.2 hf).2 _ fun q F5 H5 g5 r5 => ⟨g y z, r5, ?_⟩
    exact k F5 H5 ((((g1.trans g2).trans g3).trans g4).trans g5)
/-! ### a sign in a text -/
/-! ### texts of a module -/
/-! ### split -/
theorem mem_join {sep : Str} : ∀ {ps : List Str} {p : Str} {c : Nat}, p ∈ ps → c ∈ p.cps.toList → c ∈ (Str.join sep ps).cps.toList
  | [], _, _, h, _ => by cases h
  | [x], p, c, h, hc => by
    have : p = x := by simpa using h
    subst this
    exact hc
  | x :: y :: r, p, c, h, hc => by
    have e : Str.join sep (x :: y :: r) = x ++ sep ++ Str.join sep (y :: r) := rfl
    have e2 : (x ++ sep ++ Str.join sep (y :: r)).cps.toList = x.cps.toList ++ sep.cps.toList ++ (Str.join sep (y :: r)).cps.toList := by
      show ((x.cps ++ sep.cps) ++ (Str.join sep (y :: r)).cps).toList = _
      rw [Array.toList_append, Array.toList_append]
    rw [e, e2]
    rcases List.mem_cons.mp h with h | h
    · subst h
      exact List.mem_append.mpr (.inl (List.mem_append.mpr (.inl hc)))
    · exact List.mem_append.mpr (.inr (mem_join h hc))
/-! ### for over what is made with effects -/
/-! ### equality behind effects -/
section
variable [DecidableEq α] {T : Ty X.K α} {vl : μ → α} {cs1 : μ → List (Cell X.K)} {M : (μ → Prop) → Prop} {vl2 : μ → ν → α} {cs2 : μ → ν → List (Cell X.K)} {M2 : μ → (ν → Prop) → Prop} {a b : Expr}
theorem tk_neE (hu : X.A.units + 64 < cLine) (dd : DT T) (ha : EK X Y a ρ cs T vl cs1 M) (hb : ∀ y, EK X Y b ρ (cs1 y) T (vl2 y) (cs2 y) (M2 y)) (hm : behindInMarks .NotEq b = false := by first | exact nomark _ | rfl) (hn : dd.n ≤ 64 := by exact Nat.le_of_ble_eq_true rfl) :
    TK X Y (.Compare a [.NotEq] [b] pos) ρ cs (fun y : μ × ν => !decide (vl y.1 = vl2 y.1 y.2)) (fun y => cs2 y.1 y.2) (fun φ => M fun y => M2 y fun u => φ (y, u)) := fun F σ H ok xh φ p Q k => by
  refine wt (pt_cmpR (op_neD hu) pe_w pe_w hm) ?_
  refine ha F σ H ok xh _ p _ fun y v F1 H1 m1 r1 q1 => ?_
  refine hb y F1 σ H1 (ok.mv m1) (xh.mv m1) _ q1 _ fun u w F2 H2 m2 r2 q2 => ?_
  have d1 := dv_sv dd hn F2 H2 v m2.fh (T.mono m2.ff r1)
  have d2 := dv_sv dd hn F2 H2 w m2.fh r2
  refine ⟨_, _, d1.1, d2.1, d1.2, d2.2, _, rfl, ?_⟩
  rw [eqv_dec dd]
  exact k (y, u) F2 H2 (m1.trans m2) q2
end
end
end MD
namespace MD
open PySem PySem.Spec PyProof.Rows L2
/-! ### refusals -/
inductive Rf where
  | noText (n : Int) | twice (s : Str) | badStep (i : Int) (s : Str) | badGood (i : Int) | noLetter (s : Str) | noDesk (s : Str)
  | otherLetters | notices (a b : List Str) | tooMany (n : Int) | noName (s : Str) | noKind | noRow
/-- where the classes stand -/
structure XA where
  NoText : Addr := 0
  Twice : Addr := 0
  BadStep : Addr := 0
  BadGood : Addr := 0
  NoLetter : Addr := 0
  NoDesk : Addr := 0
  OtherLetters : Addr := 0
  Notices : Addr := 0
  TooMany : Addr := 0
  NoName : Addr := 0
  NoKind : Addr := 0
  NoRow : Addr := 0
def exn {K : PySem.W.Frag} (xa : XA) : Rf → Exn K
  | .noText n => ⟨xa.NoText, [("line", .val tI n)]⟩
  | .twice s => ⟨xa.Twice, [("name", .val tS s)]⟩
  | .badStep i s => ⟨xa.BadStep, [("letter", .val tS s), ("state", .val tI i)]⟩
  | .badGood i => ⟨xa.BadGood, [("state", .val tI i)]⟩
  | .noLetter s => ⟨xa.NoLetter, [("letter", .val tS s)]⟩
  | .noDesk s => ⟨xa.NoDesk, [("desk", .val tS s)]⟩
  | .otherLetters => ⟨xa.OtherLetters, []⟩
  | .notices a b => ⟨xa.Notices, [("other", .val (tL tS) b), ("one", .val (tL tS) a)]⟩
  | .tooMany n => ⟨xa.TooMany, [("most", .val tI n)]⟩
  | .noName s => ⟨xa.NoName, [("name", .val tS s)]⟩
  | .noKind => ⟨xa.NoKind, []⟩
  | .noRow => ⟨xa.NoRow, []⟩
/-- what of the text an exception's class must have -/
structure XcT (K : PySem.W.Frag) (mg : Str → Option Value) (nm : Str) (C : Addr) : Prop where
  gC : mg nm = some (.ref C)
  ox : OexC K C
  is : ExcC K C
/-! ### the promises of __init__ -/
end MD
namespace MD
open PySem PySem.Spec PyProof.Rows L2
/-! ### making and methods that may raise, at the slots as they are -/
/-! ### contracts of what may raise -/
/-- where pre holds: a value, or a refusal -/
def Con.fx {K : PySem.W.Frag} {A γ : Type} (xa : XA) (ins : A → List (Slot K)) (T : Ty K γ) (pre : A → Prop) (g : A → γ ⊕ Rf) : Con K A γ γ where
  ins := ins
  cin := fun _ => []
  wp := fun a φ ε => pre a ∧ (∀ r, g a = .inl r → φ r) ∧ ∀ e, g a = .inr e → ε (exn xa e)
  T := T
  rv := fun r => r
  cout := fun _ _ => []
  mono := fun _ _ _ _ _ h h' w => ⟨w.1, fun r e => h r (w.2.1 r e), fun e q => h' _ (w.2.2 e q)⟩
theorem Mv.none {K : PySem.W.Frag} {cs cs1 : List (Cell K)} {F H F' H' : Hp} (m : Mv cs F H cs1 F' H') : Mv cs F H [] F' H' :=
  ⟨m.ff, m.fh, m.fr, m.kp, fun c h => (nomatch h), List.nodup_nil, fun c h => (nomatch h), m.st⟩
/-! ### calls of what may raise -/
section
variable {X : Cx} {fl : Hp} {B : Hb X.K} {Y : Ec X.K} {ρ : List (Slot X.K)} {cs : List (Cell X.K)} {A R α β γ δ μ ν : Type} {pos : Pos} {rest : List Stmt} {D : Ends} {e : Expr}
theorem ek_fx {xa : XA} {k : Nat} {f : Addr} {fd : FuncData} {ps : List Str} {nm : Str} {p : Pos} {es : List Expr} {ins : α → List (Slot X.K)} {T : Ty X.K γ} {pre : α → Prop} {g : α → γ ⊕ Rf} {Ts : Tys X.K α} {vl : μ → α} {cs1 : μ → List (Cell X.K)} {M : (μ → Prop) → Prop}
    (F : FnOk X.prog X.w X.K X.mg X.base (L2.CX X.prog X.w) k f fd ps (Con.fx xa ins T pre g).sp) (hs : Sl Ts ins) (hr : Room k X.A) (hm : X.mg nm = some (.ref f)) (hk : PySem.W.keepIn X.K (.ref f) = true) (hb : Binds X.K fd ps [])
    (ha : AK X Y (e :: es) ρ cs Ts vl cs1 M) (hy : ∀ y, ∀ c ∈ Y.kp, c ∈ cs1 y) (hg : Gl X nm := by rfl) (hdb : (nm == ("__debug__" : Str)) = false := by decide) (he : starEach (e :: es) X.env = (false, eval e X.env) :: starEach es X.env := by rfl) (hpl : (backTo pos (starEach es X.env)).any (·.1) = false := by rfl) :
    EK X Y (.Call (.Name nm p) (e :: es) [] pos) ρ cs T (fun y : μ × γ => y.2) (fun y => cs1 y.1) (fun φ => M fun y => pre (vl y) ∧ (∀ r, g (vl y) = .inl r → φ (y, r)) ∧ ∀ r, g (vl y) = .inr r → Y.ε (exn xa r)) := fun F0 σ H ok xh φ q Q kk => by
  obtain ⟨W, tk, hW⟩ := id xh
  refine we (pe_callS F hr hg hm hk hb (E := L2.WE W) (fun σ => passAt tk σ) pa_w hdb he hpl) ?_
  refine ha F0 σ H ok xh _ q _ fun y vs F1 H1 m1 r1 q1 => ?_
  have ok1 := ok.mv m1
  have up : ∀ {F2 H2 : Hp}, Mv (K := X.K) [] F1 H1 [] F2 H2 → Mv cs F0 H (cs1 y) F2 H2 := fun m => m1.trans (ok1.grow ⟨m.ff, m.fh, fun b o e => m.kp b o e fun c hc => (nomatch hc), m.fr⟩)
  refine ⟨vl y, F1, hs F1 vs (vl y) r1, m1.fh, fun c hc => absurd hc (by simp [Con.fx]), by simp [Con.fx], q1.1, fun r er v F2 H2 m rr => ?_, fun r er cls d F2 H2 m rep => ?_⟩
  · exact kk (y, r) v F2 H2 (up m) rr (q1.2.1 r er)
  · exact hW _ cls d (cs1 y) F2 H2 (up m) (hy y) rep (q1.2.2 r er)
end
end MD
namespace MD
open PySem PySem.Spec PyProof.Rows L2
/-! ### except clauses, each with a name or with none -/
abbrev Clause := Value × Option Nat × (Addr → Value → Option Addr → TS)
def offI (D : Ends) (i : Nat) : Ends := { nx := fun σ H => D.nx (σ.set i none) H, rt := D.rt, bk := fun σ H => D.bk (σ.set i none) H, ct := fun σ H => D.ct (σ.set i none) H }
def wMix (K : PySem.W.Frag) (Wo : WX) (D : Ends) : List Clause → WX
  | [] => Wo
  | (c, none, ts) :: r => fun cls d σ H => ∃ b, PySem.W.exmOne K cls c = some b ∧ (b = true → ∀ a, H a = none → ts a cls d D σ H) ∧ (b = false → wMix K Wo D r cls d σ H)
  | (c, some i, ts) :: r => fun cls d σ H => ∃ b, PySem.W.exmOne K cls c = some b ∧ (b = true → ∀ a, H a = none → ts a cls d (offI D i) (σ.set i (some (.ref a))) H) ∧ (b = false → wMix K Wo D r cls d σ H)
inductive HdMix (X : Cx) : List ExceptHandler → List Clause → Prop
  | nil : HdMix X [] []
  | cons {x : Str} {c : Value} {ts : Addr → Value → Option Addr → TS} {b₀ : Stmt} {suite : List Stmt} {np pos' : Pos} {hds : List ExceptHandler} {l : List Clause} (hc : Names X x c)
      (hsu : ∀ (a : Addr) (oe : Obj) (cls : Value) (d : Option Addr) (pn : List (Addr × Obj)), Zc cls d oe → (∃ vs, oe.data = .fields vs) → PSs (X.suite a ((a, oe) :: pn)) (b₀ :: suite) (ts a cls d)) (r : HdMix X hds l) :
      HdMix X (.ExceptHandler (some (.Name x np)) none (b₀ :: suite) pos' :: hds) ((c, none, ts) :: l)
  | consAs {x n : Str} {i : Nat} {c : Value} {ts : Addr → Value → Option Addr → TS} {b₀ : Stmt} {suite : List Stmt} {np pos' : Pos} {hds : List ExceptHandler} {l : List Clause} (hc : Names X x c) (hi : X.N[i]? = some n) (hln : X.env.kindOf n = some .local)
      (hsu : ∀ (a : Addr) (oe : Obj) (cls : Value) (d : Option Addr) (pn : List (Addr × Obj)), Zc cls d oe → (∃ vs, oe.data = .fields vs) → PSs (X.suite a ((a, oe) :: pn)) (b₀ :: suite) (ts a cls d)) (r : HdMix X hds l) :
      HdMix X (.ExceptHandler (some (.Name x np)) (some n) (b₀ :: suite) pos' :: hds) ((c, some i, ts) :: l)
section
variable {X : Cx} {body : List Stmt} {h₀ : ExceptHandler} {hds : List ExceptHandler} {l : List Clause} {pos : Pos} {tb : WX → TS} {Wo : WX}
theorem ps_try_mix (hs : X.stack = X.env :: X.outer) (hf : X.env.frame = some X.env.locals) (hN : X.N.Nodup) (tk : Takes X Wo)
    (hb : ∀ (W : WX) (pn : List (Addr × Obj)) (xe : Value → Shared → Prop), Takes (X.tr pn xe) W → PassesOwn (model X.prog X.w) X.A X.env xe → PSs (X.tr pn xe) body (tb W))
    (hh : HdMix X (h₀ :: hds) l) : PS X (.Try body (h₀ :: hds) [] [] pos) (fun D σ H => tb (wMix X.K Wo D l) D σ H) := by
  refine ⟨fun pins s σ H D inv ask => ?_⟩
  have okX := inv.ok
  have frA : X.A.frames = some (X.env :: X.outer) := by rw [okX.frames, hs]
  refine wpAny_Try_except ?_
  refine wpAny_mono ((hb (wMix X.K Wo D l) (X.pn ++ pins) (fun e sa => wpAny (model X.prog X.w) X.A (noteFrame e X.env) (fun _ sb => wpAny (model X.prog X.w) X.A (setFlight e none) (fun _ sc =>
    wpAny (model X.prog X.w) X.A (handleBy e X.env (h₀ :: hds)) (SP X pins D) X.xe sc) X.xe sb) X.xe sa) (fun u s' met => ?_) PassesOwn.looking).run [] s σ H D (inv.toTry _) ask) (fun f s1 fin => ?_) (fun e s1 he => he)
  · obtain ⟨a, B, sI, pins', σ', H', cls, d, rfl, inv0, nb, up, sky, na, os, ag, w⟩ := met
    have inv1 : Inv X pins σ' H' sI := inv0.ofTry okX
    have sky' : Sky B (X.env :: X.outer) a (Zc cls d) X.env.locals s'.heap := by rw [← hs]; exact sky
    show wpAny (model X.prog X.w) X.A (noteFrame (.ref a) X.env) _ _ _
    refine Sky.land Zc.steady frA hf sky' fun h3 fl3 up3 => ?_
    have inv3 : Inv X pins σ' H' { s' with heap := h3 } := inv1.landed nb fl3.1 (up.trans up3) os ag
    obtain ⟨o3, v3, e3, z3, d3⟩ := fl3.there
    have away : a ∉ frs (X.env :: X.outer) := fun hm => by
      obtain ⟨_, o', e', hnf⟩ := (fl3.2.2.1).mem hm
      rw [e3] at e'
      cases e'
      exact hnf _ d3
    have nL : a ≠ X.env.locals := fun z => away (List.mem_filterMap.mpr ⟨X.env, List.mem_cons_self, by rw [hf, z]⟩)
    have nF : a ∉ X.fs := fun hm => by
      obtain ⟨e, he, q⟩ := List.mem_filterMap.mp hm
      exact away (List.mem_filterMap.mpr ⟨e, List.mem_cons_of_mem _ he, q⟩)
    have suit3 := inv3.suite e3 d3 na nL nF
    have ask1 : ∀ {x : Str} {c : Value} {np : Pos} {Q : Value → Shared → Prop} {E : Value → Shared → Prop}, Names X x c → Q c { s' with heap := h3 } → wpAny (model X.prog X.w) (X.A.mark (some (.ref a))) (eval (.Name x np) X.env) Q E { s' with heap := h3 } := fun hc q => by
      obtain ⟨hg, hdbg, hm | ⟨hm, hv, hnn⟩⟩ := hc
      · exact ld_glob (X := X.suite a ((a, o3) :: (X.pn ++ pins))) suit3 hg hm q hdbg
      · exact ld_blt (X := X.suite a ((a, o3) :: (X.pn ++ pins))) suit3 hg hm hv q hnn hdbg
    have kind : PySem.W.Looks (model X.prog X.w) h3 (typeOf (.ref a)) cls := fun A Q E s k q => wpAny_typeOf_ref (k _ _ e3) (by rw [z3.1]; exact q)
    have go : ∀ {hds' : List ExceptHandler} {l' : List Clause}, HdMix X hds' l' → wMix X.K Wo D l' cls d σ' H' →
        wpAny (model X.prog X.w) X.A (handleBy (.ref a) X.env hds') (SP X pins D) X.xe { s' with heap := h3 } := by
      intro hds' l' hk
      induction hk with
      | nil =>
        intro w
        refine wpAny_handleBy_nil ?_
        obtain ⟨k1, k2, k3, oe, vs, T, oT, ts', he, hz, hd, h1, hr⟩ := id fl3
        unfold PySem.passOn
        refine wpAny_bind (wpAny_field he hd h1 ?_)
        rw [if_neg (show ¬ ((Value.ref T == Value.none) = true) from by simp)]
        have out : wpAny (model X.prog X.w) X.A (setFlight (.ref a) X.env.frame) (fun _ s4 => wpAny (model X.prog X.w) X.A (throw (.ref a) : Sem Flow) (SP X pins D) X.xe s4) X.xe { s' with heap := h3 } := by
          rw [hf]
          refine HandSPX.setFlight_upZ fl3 fun h4 hh4 up4 => wpAny_throw (tk _ _ ?_)
          exact ⟨a, B, sI, pins, σ', H', cls, d, rfl, inv1, nb, (up.trans up3).trans up4, .inr (.inr (by rw [hs]; exact hh4)), na, os, ag, w⟩
        first
          | exact wpAny_bind (wpAny_pure (wpAny_bind out))
          | exact wpAny_bind out
      | cons hc hsu r ih =>
        intro w
        obtain ⟨b, hb1, hyes, hno⟩ := w
        refine wpAny_handleBy_cons (codeAny_handlers_test ?_) (by intro q; cases q)
        refine ask1 hc ((PySem.W.exm_one (M := model X.prog X.w) inv3.kIn kind hb1).here ?_)
        cases b with
        | false => exact ih (hno rfl)
        | true =>
          refine codeAny_handlers_suite ?_
          refine HandSPX.lands_againZ fl3 fun h4 fl4 up4 => ?_
          obtain ⟨o4, v4, e4, z4, d4⟩ := fl4.there
          have inv4 : Inv X pins σ' H' { s' with heap := h4 } := inv1.landed nb fl4.1 ((up.trans up3).trans up4) os ag
          refine wpAny_mono ((hsu a o4 cls d (X.pn ++ pins) z4 ⟨_, d4⟩).run [] _ _ H' _ (inv4.suite e4 d4 na nL nF) (hyes rfl a na)) (fun f s6 fin => ?_) (fun _ _ z => False.elim z)
          match f, fin with
          | .next, ⟨_, _, j, q⟩ => exact ⟨_, _, j.unsuite okX, q⟩
          | .brk, ⟨_, _, j, q⟩ => exact ⟨_, _, j.unsuite okX, q⟩
          | .cont, ⟨_, _, j, q⟩ => exact ⟨_, _, j.unsuite okX, q⟩
          | .ret u, ⟨_, _, _, j, r6, q⟩ => exact ⟨_, _, _, j.unsuite okX, r6, q⟩
      | @consAs x n i c ts b₀ suite np pos' hds2 l2 hc hi hln hsu r ih =>
        intro w
        obtain ⟨b, hb1, hyes, hno⟩ := w
        refine wpAny_handleBy_cons (codeAny_handlers_test ?_) (by intro q; cases q)
        refine ask1 hc ((PySem.W.exm_one (M := model X.prog X.w) inv3.kIn kind hb1).here ?_)
        cases b with
        | false => exact ih (hno rfl)
        | true =>
          refine codeAny_handlers_suite_as ?_
          refine HandSPX.lands_againZ fl3 fun h4 fl4 up4 => ?_
          obtain ⟨o4, v4, e4, z4, d4⟩ := fl4.there
          have inv4 : Inv X pins σ' H' { s' with heap := h4 } := inv1.landed nb fl4.1 ((up.trans up3).trans up4) os ag
          have loc : Loc X.env.scope n := .inl hln
          refine store_ok (X := X.suite a ((a, o4) :: (X.pn ++ pins))) (v := .ref a) (inv4.suite e4 d4 na nL nF) hN hi loc rfl (fun s5 suit5 => ?_) (.inr hln)
          refine wpAny_mono ((hsu a o4 cls d (X.pn ++ pins) z4 ⟨_, d4⟩).run [] s5 _ H' _ suit5 (hyes rfl a na)) (fun f s6 fin => ?_) (fun _ _ z => False.elim z)
          match f, fin with
          | .next, ⟨_, _, j, q⟩ => exact gone_ok (j.unsuite okX) hN hi hln fun s7 j7 => ⟨_, _, j7, q⟩
          | .brk, ⟨_, _, j, q⟩ => exact gone_ok (j.unsuite okX) hN hi hln fun s7 j7 => ⟨_, _, j7, q⟩
          | .cont, ⟨_, _, j, q⟩ => exact gone_ok (j.unsuite okX) hN hi hln fun s7 j7 => ⟨_, _, j7, q⟩
          | .ret u, ⟨_, _, _, j, r6, q⟩ => exact gone_ok (j.unsuite okX) hN hi hln fun s7 j7 => ⟨_, _, _, j7, r6, q⟩
    exact go hh w
  · match f, fin with
    | .next, ⟨σ6, H6, j, q⟩ => exact wpAny_execs_nil ⟨σ6, H6, j.ofTry okX, q⟩
    | .brk, ⟨σ6, H6, j, q⟩ => exact ⟨σ6, H6, j.ofTry okX, q⟩
    | .cont, ⟨σ6, H6, j, q⟩ => exact ⟨σ6, H6, j.ofTry okX, q⟩
    | .ret u, ⟨v6, σ6, H6, j, r6, q⟩ => exact ⟨v6, σ6, H6, j.ofTry okX, r6, q⟩
end
/-! ### try, typed -/
/-- a try's body: what it raises is met at the slots as they are -/
def TB (X : Cx) (B : Hb X.K) (Y : Ec X.K) (fl : Hp) (st : List Stmt) (ρ : List (Slot X.K)) (cs : List (Cell X.K)) (D : Ends) (φ : Prop) : Prop := ∀ F σ H, Ok B fl ρ cs F σ H → φ → Xh X Y cs F σ H → WB X st D σ H
theorem Mv.sub {K : PySem.W.Frag} {c0 cs cs2 : List (Cell K)} {F H F' H' : Hp} (m : Mv c0 F H cs2 F' H') (h : ∀ c ∈ cs, c ∈ cs2) (nd : (cs.map Cell.a).Nodup) : Mv c0 F H cs F' H' :=
  ⟨m.ff, m.fh, m.fr, m.kp, fun c hc => m.cell c (h c hc), nd, fun c hc => m.nw c (h c hc), m.st⟩
/-- an exception that an except clause has bound -/
def tEx {K : PySem.W.Frag} (xa : XA) (a : Addr) (cls : Value) (d : Option Addr) : Ty K Rf := ⟨fun F v r => v = .ref a ∧ ExnRep F (exn (K := K) xa r) cls d, fun {F F' v r} e h => ⟨h.1, h.2.1, h.2.2.imp id fun ⟨dd, fs, h1, h2, h3⟩ => ⟨dd, fs, h1, e _ _ h2, h3.mono e⟩⟩⟩
section
variable {X : Cx} {fl : Hp} {B : Hb X.K} {Y : Ec X.K} {ρ : List (Slot X.K)} {cs : List (Cell X.K)} {A R α β γ δ μ ν : Type} {pos : Pos} {rest : List Stmt} {D : Ends} {e : Expr}
theorem SK.at0 {st : List Stmt} {φ : Prop} {F H : Hp} {σ : L2.St} (h : SK X B (Y0 X.K) fl st ρ cs D φ) (ok : Ok B fl ρ cs F σ H) (p : φ) : WB X st D σ H := h F σ H ok p (fun _ _ _ _ => False) takes0 fun _ _ _ _ _ _ _ _ _ _ z => z.elim
theorem tb_expr {T : Ty X.K α} {vl : μ → α} {cs' : μ → List (Cell X.K)} {M : (μ → Prop) → Prop} {φ : μ → Prop} (he : EK X Y e ρ cs T vl cs' M) (k : ∀ y, SK X B (Y0 X.K) fl rest ρ (cs' y) D (φ y)) (hs : swapsWith e none pos.line X.env = pure false := by rfl) :
    TB X B Y fl (.Expr e pos :: rest) ρ cs D (M φ) := fun F σ H ok p xh => by
  refine wb (pss_cons (ps_expr pe_w hs) pss_w) ?_
  exact he F σ H ok.c xh _ p _ fun y v F' H' m r q => (k y).at0 (ok.to m) q
/-- the clauses' readings -/
def tsW (X : Cx) (suite : List Stmt) : Addr → Value → Option Addr → TS := fun a cls d D σ H => ∀ oe pn, Zc cls d oe → (∃ vs, oe.data = .fields vs) → WB (X.suite a ((a, oe) :: pn)) suite D σ H
theorem hd_nil : HdMix X [] [] := .nil
theorem hd_no {x : Str} {c : Value} {b₀ : Stmt} {suite : List Stmt} {np pos' : Pos} {hds : List ExceptHandler} {l : List Clause} (hc : Names X x c) (r : HdMix X hds l) : HdMix X (.ExceptHandler (some (.Name x np)) none (b₀ :: suite) pos' :: hds) ((c, none, tsW X (b₀ :: suite)) :: l) :=
  .cons hc (fun a oe cls d pn hz hf => ⟨fun pins s σ H D I h => h oe pn hz hf pins s I⟩) r
theorem hd_as {x n : Str} {i : Nat} {c : Value} {b₀ : Stmt} {suite : List Stmt} {np pos' : Pos} {hds : List ExceptHandler} {l : List Clause} (hc : Names X x c) (hi : X.N[i]? = some n) (hln : X.env.kindOf n = some .local) (r : HdMix X hds l) :
    HdMix X (.ExceptHandler (some (.Name x np)) (some n) (b₀ :: suite) pos' :: hds) ((c, some i, tsW X (b₀ :: suite)) :: l) :=
  .consAs hc hi hln (fun a oe cls d pn hz hf => ⟨fun pins s σ H D I h => h oe pn hz hf pins s I⟩) r
/-- the ways of an exception r through the clauses -/
def ClK (X : Cx) (B : Hb X.K) (fl : Hp) (ρ : List (Slot X.K)) (cs : List (Cell X.K)) (D : Ends) (xa : XA) (l : List Clause) (r : Rf) (φ : Prop) : Prop :=
  ∀ F σ H cls d, Ok B fl ρ cs F σ H → ExnRep F (exn (K := X.K) xa r) cls d → φ → wMix X.K (fun _ _ _ _ => False) D l cls d σ H
theorem cl_as {xa : XA} {c : Value} {i : Nat} {suite : List Stmt} {l : List Clause} {r : Rf} {φ : Prop} (hx : PySem.W.exmOne X.K (.ref (exn (K := X.K) xa r).c) c = some true)
    (k : ∀ a oe pn cls d, Zc cls d oe → (∃ vs, oe.data = .fields vs) → SK (X.suite a ((a, oe) :: pn)) B (Y0 X.K) fl suite (ρ.set i (.val (tEx xa a cls d) r)) cs (offI D i) φ) : ClK X B fl ρ cs D xa ((c, some i, tsW X suite) :: l) r φ := fun F σ H cls d ok rep p => by
  have e : cls = .ref (exn (K := X.K) xa r).c := rep.1
  exact ⟨true, by rw [e]; exact hx, fun _ a ha oe pn hz hf => SK.at0 (X := X.suite a ((a, oe) :: pn)) (k a oe pn cls d hz hf) (ok.set (T := tEx xa a cls d) (x := r) i ⟨rfl, rep⟩) p, fun z => (nomatch z)⟩
theorem sk1_try {body : List Stmt} {h₀ : ExceptHandler} {hds : List ExceptHandler} {l : List Clause} {φ : Prop} (xa : XA) (Φ : Rf → Prop) (hN : X.N.Nodup)
    (hb : ∀ pn xe, PassesOwn (model X.prog X.w) X.A X.env xe → TB (X.tr pn xe) B ⟨cs, fun ex => ∃ r, ex = exn xa r ∧ Φ r⟩ fl body ρ cs D φ)
    (hh : HdMix X (h₀ :: hds) l) (hc : ∀ r, ClK X B fl ρ cs D xa l r (Φ r)) (hs : X.stack = X.env :: X.outer := by rfl) (hf : X.env.frame = some X.env.locals := by rfl) :
    SK1 X B Y fl (.Try body (h₀ :: hds) [] [] pos) ρ cs D φ := fun F σ H ok p W tk hx' => by
  refine ws (ps_try_mix hs hf hN takes0 (tb := fun W D σ H => ∀ pn xe, Takes (X.tr pn xe) W → PassesOwn (model X.prog X.w) X.A X.env xe → WB (X.tr pn xe) body D σ H) (fun W pn xe tkb po => ⟨fun pins s σ H D I h => h pn xe tkb po pins s I⟩) hh) ?_
  intro pn xe tkb po
  refine hb pn xe po F σ H ok p ⟨_, tkb, fun ex cls d cs2 F' H' mv kp rep hr => ?_⟩
  obtain ⟨r, er, hr⟩ := hr
  subst er
  exact hc r F' σ H' cls d ⟨ok.env.mono fun _ _ q => q.mono mv.ff, (ok.mv.trans mv).sub kp ok.mv.nd, ok.flo.trans mv.ff⟩ rep hr
theorem sk_midSX {ρ' : β → List (Slot X.K)} {cs' : β → List (Cell X.K)} {Rz : β → Prop} {z : β} (i : Nat) (hn : D.nx = fun σ H => Mid B fl ρ' cs' Rz (σ.set i none) H) (h : Le (ρ.set i .un) (ρ' z)) (hc : cs = cs' z) : SK X B Y fl [] ρ cs D (Rz z) := fun F σ H ok p W tk hx' => by
  subst hc
  refine wb pss_nil ?_
  show D.nx σ H
  rw [hn]
  have ok1 := ok.unset i (u := none)
  exact ⟨z, F, ⟨h.env ok1.env, ok1.mv, ok1.flo⟩, p⟩
/-! ### in a suite: fields, classes -/
def rIsX (K : PySem.W.Frag) (Dc a : Addr) (cls : Value) (d : Option Addr) : List V → Hp → VK → Prop := fun xs H Q => ∃ (dd : Addr) (c : V) (cv : Value) (b : Bool) (fs : List (Str × V)), cls = .ref Dc ∧ d = some dd ∧ xs = [.ref a, c] ∧ (∀ u, RelV c u → u = cv) ∧ PySem.W.kitOne K (.ref Dc) cv = some b ∧ H dd = some (.xd fs) ∧ Q (.bl b) H
theorem call_isX {a Dc : Addr} {cls : Value} {d : Option Addr} {oe : Obj} {pn : List (Addr × Obj)} (ct : ExcC X.K Dc) (ox : OexC X.K Dc) (hz : Zc cls d oe) (hf : ∃ vs, oe.data = .fields vs) : CallR (X.suite a ((a, oe) :: pn)) (.builtin "isinstance") (rIsX X.K Dc a cls d) := by
  intro pins s σ H xs us Q I rel ask
  obtain ⟨dd, c, cv, b, fs, rfl, rfl, rfl, hcv, kit, ea, q⟩ := ask
  match us, rel with
  | [u0, u1], .cons rx (.cons rt .nil) =>
    cases rx
    have ec := hcv _ rt
    subst ec
    obtain ⟨hget, _⟩ := I.pin (a, oe) (List.mem_append.mpr (.inl List.mem_cons_self))
    obtain ⟨vs, hv⟩ := hf
    have hx : ObjOk X.prog X.w H s.heap dd (.xd fs) := I.hok dd _ ea
    obtain ⟨mA, hns, hr⟩ := hx
    obtain ⟨od, ho, _⟩ := lookIn_ns hns
    have inst : PySem.W.InstAt s.heap a oe Dc (some od) := ⟨hget, hz.1, by unfold PySem.W.notCls; rw [hv] <;> rfl, by rw [hz.2]; exact ho⟩
    have hcl : (PySem.W.clsIn X.K Dc).isSome = true := by
      obtain ⟨nm, q, N, bs, bm, sn, sub, ab, col, dd, k0, k1, k2, k3, k5, hC, hbm⟩ := ox.cls
      unfold PySem.W.clsIn
      rw [hC]
      rfl
    exact PySem.W.kia_one (PySem.W.kitx_exc hcl ct.hg ct.hk ct.hs ct.ha ct.hn ct.ht ct.hm) I.kIn inst kit (fun z => nomatch z) fun tk => ⟨.bl b, H, I.kept (t' := tk) fun _ _ z => z, rfl, q⟩
end
end MD
namespace MD
open PySem PySem.Spec PyProof.Rows L2
section
variable {X : Cx} {fl : Hp} {B : Hb X.K} {Y : Ec X.K} {ρ : List (Slot X.K)} {cs : List (Cell X.K)} {A R α β γ δ μ ν : Type} {pos : Pos} {rest : List Stmt} {D : Ends} {e : Expr}
/-! ### any plain data -/
def tA {K : PySem.W.Frag} : Ty K PyData := ⟨fun F v d => (∀ H, Same F H → Dp K H v d) ∧ SeqAt.shaped d = true, fun e h => ⟨fun H s => h.1 H (e.trans s), h.2⟩⟩
theorem PK.any {T : Ty X.K α} {x : α} {P : Prop} (D : DT T) (h : PK X e ρ cs T x P) (hn : D.n ≤ 64 := by exact Nat.le_of_ble_eq_true rfl) : PK X e ρ cs tA (D.d x) P := fun F σ H ok p Q k =>
  h F σ H ok p Q fun v F' H' g r => k v F' H' g ⟨fun H2 s => D.dp F' H2 v x s r, shaped_of (D.lay _ _ _ r) (D.dep x) hn⟩
theorem EK.any {T : Ty X.K α} {vl : μ → α} {cs' : μ → List (Cell X.K)} {M : (μ → Prop) → Prop} (D : DT T) (h : EK X Y e ρ cs T vl cs' M) (hn : D.n ≤ 64 := by exact Nat.le_of_ble_eq_true rfl) : EK X Y e ρ cs tA (fun y => D.d (vl y)) cs' M := fun F σ H ok xh φ p Q k =>
  h F σ H ok xh φ p Q fun y v F' H' m r q => k y v F' H' m ⟨fun H2 s => D.dp F' H2 v (vl y) s r, shaped_of (D.lay _ _ _ r) (D.dep _) hn⟩ q
/-! ### None -/
/-! ### tuples with effects -/
/-! ### isinstance in a suite -/
theorem sk_retXE {A γ : Type} {xa : XA} {ins : A → List (Slot X.K)} {T : Ty X.K γ} {pre : A → Prop} {g : A → γ ⊕ Rf} {a : A} {ψ : γ → Prop} {n b' c' : L2.St → Hp → Prop} {vl : μ → γ} {cs' : μ → List (Cell X.K)} {M : (μ → Prop) → Prop} {r : List Stmt} (he : EK X Y e ρ cs T vl cs' M) (hc : ∀ y, cs' y = []) :
    SK X B Y fl (.Return (some e) pos :: r) ρ cs { retD (Con.fx xa ins T pre g) a B ψ with nx := n, bk := b', ct := c' } (M fun y => ψ (vl y)) := sk_retE (C := Con.fx xa ins T pre g) vl he (fun _ => rfl) fun y => (hc y).symm
/-! ### all ways of a refusal -/
theorem kp0 {K : PySem.W.Frag} {c : Cell K} {Pr : Prop} (h : c ∈ ([] : List (Cell K))) : Pr := nomatch h
theorem cl_never {xa : XA} {l : List Clause} {r : Rf} : ClK X B fl ρ cs D xa l r False := fun F σ H cls d ok rep p => p.elim
def rfP (a1 : Int → Prop) (a2 : Str → Prop) (a3 : Int → Str → Prop) (a4 : Int → Prop) (a5 a6 : Str → Prop) (a7 : Prop) (a8 : List Str → List Str → Prop) (a9 : Int → Prop) (a10 : Str → Prop) (a11 a12 : Prop) : Rf → Prop
  | .noText n => a1 n
  | .twice s => a2 s
  | .badStep i s => a3 i s
  | .badGood i => a4 i
  | .noLetter s => a5 s
  | .noDesk s => a6 s
  | .otherLetters => a7
  | .notices a b => a8 a b
  | .tooMany n => a9 n
  | .noName s => a10 s
  | .noKind => a11
  | .noRow => a12
theorem sk1_tryA {body : List Stmt} {h₀ : ExceptHandler} {hds : List ExceptHandler} {l : List Clause} {φ : Prop} (xa : XA) {a1 : Int → Prop} {a2 : Str → Prop} {a3 : Int → Str → Prop} {a4 : Int → Prop} {a5 a6 : Str → Prop} {a7 : Prop} {a8 : List Str → List Str → Prop} {a9 : Int → Prop} {a10 : Str → Prop} {a11 a12 : Prop} (hN : X.N.Nodup)
    (hh : HdMix X (h₀ :: hds) l) (c1 : ∀ n, ClK X B fl ρ cs D xa l (.noText n) (a1 n)) (c2 : ∀ s, ClK X B fl ρ cs D xa l (.twice s) (a2 s)) (c3 : ∀ i s, ClK X B fl ρ cs D xa l (.badStep i s) (a3 i s)) (c4 : ∀ i, ClK X B fl ρ cs D xa l (.badGood i) (a4 i))
    (c5 : ∀ s, ClK X B fl ρ cs D xa l (.noLetter s) (a5 s)) (c6 : ∀ s, ClK X B fl ρ cs D xa l (.noDesk s) (a6 s)) (c7 : ClK X B fl ρ cs D xa l .otherLetters a7) (c8 : ∀ a b, ClK X B fl ρ cs D xa l (.notices a b) (a8 a b)) (c9 : ∀ n, ClK X B fl ρ cs D xa l (.tooMany n) (a9 n))
    (c10 : ∀ s, ClK X B fl ρ cs D xa l (.noName s) (a10 s)) (c11 : ClK X B fl ρ cs D xa l .noKind a11) (c12 : ClK X B fl ρ cs D xa l .noRow a12)
    (hb : ∀ pn xe, PassesOwn (model X.prog X.w) X.A X.env xe → TB (X.tr pn xe) B ⟨cs, fun ex => ∃ r, ex = exn xa r ∧ rfP a1 a2 a3 a4 a5 a6 a7 a8 a9 a10 a11 a12 r⟩ fl body ρ cs D φ) (hs : X.stack = X.env :: X.outer := by rfl) (hf : X.env.frame = some X.env.locals := by rfl) :
    SK1 X B Y fl (.Try body (h₀ :: hds) [] [] pos) ρ cs D φ := sk1_try xa (rfP a1 a2 a3 a4 a5 a6 a7 a8 a9 a10 a11 a12) hN hb hh (fun r => match r with
      | .noText n => c1 n
      | .twice s => c2 s
      | .badStep i s => c3 i s
      | .badGood i => c4 i
      | .noLetter s => c5 s
      | .noDesk s => c6 s
      | .otherLetters => c7
      | .notices a b => c8 a b
      | .tooMany n => c9 n
      | .noName s => c10 s
      | .noKind => c11
      | .noRow => c12) hs hf
/-- a, b = e and its like -/
theorem sk_setG {tg : Expr} {T : Ty X.K α} {G : List (Slot X.K) → α → List (Slot X.K)} {vs : List Nat} {vl : μ → α} {cs' : μ → List (Cell X.K)} {M : (μ → Prop) → Prop} {φ : μ → α → Prop} (hg : GK X tg T G vs) (he : EK X Y e ρ cs T vl cs' M) (k : ∀ y z, SK X B Y fl rest (G ρ z) (cs' y) D (φ y z))
    (hs : swapsWithSole [tg] e pos.line X.env = pure false := by rfl) (hw : swappedStores [tg] e X.env = pure none := by rfl) (h1 : (assignEach [tg] X.env).map (·.2) = [assign tg X.env] := by rfl) :
    SK X B Y fl (.Assign [tg] e pos :: rest) ρ cs D (M fun y => ∀ z, z = vl y → φ y z) := fun F σ H ok p W tk hx' => by
  refine wb (pss_cons (ps_asg pe_w pg_w hs hw h1) pss_w) ?_
  refine he F σ H ok.c (xh_of ok tk hx') _ p _ fun y v F1 H1 m t q => ?_
  have ok1 := ok.to m
  refine hg F1 σ H1 v (vl y) ρ ok1.env ok1.mv.fh t _ fun σ2 hρ2 _ => ?_
  exact k y (vl y) F1 σ2 H1 ⟨hρ2, ok1.mv, ok1.flo⟩ (q _ rfl) W tk hx'
/-! ### a for over what effects made, in two rules -/
/-! ### the same, where the refusals are caught: no fragment in the condition -/
/-! ### the answers that the written part does not give at once -/
theorem kit_ref {K : PySem.W.Frag} {C E : Addr} {b : Bool} (h1 : PySem.W.subIn K (.ref C) (.type "BaseException") = some true) (hd : PySem.W.hasDictIn K C = true) (ht : PySem.W.typeIn K (.ref C) = some (.type "type")) (hs : PySem.W.subIn K (.ref C) (.ref C) = some true) (h4 : PySem.W.subIn K (.ref E) (.ref C) = some b) : PySem.W.kitOne K (.ref E) (.ref C) = some b := by
  have e := PySem.W.exm_ref h1 hd ht h4
  unfold PySem.W.exmOne at e
  rw [if_pos (by rw [h1] <;> rfl)] at e
  unfold PySem.W.kitOne
  split
  · rename_i z
    have z : (Value.ref E) = .ref C := beq_iff_eq.mp z
    cases z
    exact hs.symm.trans h4
  · exact e
theorem kit_typ {K : PySem.W.Frag} {E : Addr} {T : String} {b : Bool} (h : PySem.W.subIn K (.ref E) (.type T) = some b) (hm : PySem.W.kitMeta T = true := by decide +kernel) : PySem.W.kitOne K (.ref E) (.type T) = some b := by
  unfold PySem.W.kitOne
  rw [if_neg (fun z => by have z : Value.ref E = .type T := beq_iff_eq.mp z; cases z)]
  show (if PySem.W.kitMeta T = true then _ else _) = _
  rw [if_pos hm]
  exact h
end
end MD
namespace KP
open PySem PySem.Spec PyProof.Rows L2 MD
/-! ### words -/
def abc : Str := "abcdefghijklmnopqrstuvwxyz"
def Low (s : Str) : Prop := ∀ c ∈ s.cps.toList, 97 ≤ c ∧ c ≤ 122
def Word (s : Str) : Prop := 1 ≤ s.length ∧ s.length ≤ 8 ∧ Low s
def sgn (c : Nat) : Str := ⟨#[c]⟩
theorem abc_cps : abc.cps.toList = List.map (fun i => 97 + i) (List.range 26) := by decide +kernel
theorem abc_len : abc.length = 26 := by decide +kernel
theorem str_len (s : Str) : s.length = s.cps.toList.length := by
  show s.cps.size = _
  rw [Array.length_toList]
theorem signs_abc : MD.signs abc = List.map (fun i => sgn (97 + i)) (List.range 26) := by
  unfold MD.signs
  rw [abc_cps, List.map_map]
  rfl
theorem app_cps (a b : Str) : (a ++ b).cps.toList = a.cps.toList ++ b.cps.toList := by
  show (a.cps ++ b.cps).toList = _
  rw [Array.toList_append]
theorem app_len (a b : Str) : (a ++ b).length = a.length + b.length := by rw [str_len, str_len, str_len, app_cps, List.length_append]
theorem low_app {a b : Str} (ha : Low a) (hb : Low b) : Low (a ++ b) := fun c hc => by
  rw [app_cps] at hc
  exact (List.mem_append.mp hc).elim (ha c) (hb c)
theorem pyIx_abc {r : Int} (h0 : 0 ≤ r) (h1 : r < 26) : pyIx (MD.signs abc) r = sgn (97 + r.toNat) := by
  unfold pyIx atI
  have hl : (MD.signs abc).length = 26 := by rw [signs_abc, List.length_map, List.length_range]
  have e : ixN (MD.signs abc).length r = some r.toNat := by
    unfold ixN
    rw [if_pos h0, hl, if_pos (by omega)]
  rw [e]
  show ((MD.signs abc)[r.toNat]?).getD default = _
  rw [signs_abc, List.getElem?_map, List.getElem?_range (by omega)]
  rfl
theorem ixok_abc {r : Int} (h0 : 0 ≤ r) (h1 : r < 26) : IxOk (MD.signs abc) r := by
  have hl : (MD.signs abc).length = 26 := by rw [signs_abc, List.length_map, List.length_range]
  exact ⟨by rw [hl]; omega, by rw [hl]; omega⟩
theorem sgn_word {r : Nat} (h : r < 26) : Word (sgn (97 + r)) := ⟨Nat.le_refl _, by show 1 ≤ 8; decide, fun c hc => by
  have : c = 97 + r := by simpa [sgn] using hc
  omega⟩
/-- joined single letters -/
theorem join_letters : ∀ ls : List Str, (∀ s ∈ ls, s.length = 1 ∧ Low s) → (Str.join ⟨#[]⟩ ls).length = ls.length ∧ Low (Str.join ⟨#[]⟩ ls)
  | [], _ => ⟨rfl, fun c hc => by cases hc⟩
  | s :: ls, h => by
    obtain ⟨i1, i2⟩ := join_letters ls fun x hx => h x (List.mem_cons_of_mem _ hx)
    obtain ⟨h1, h2⟩ := h s List.mem_cons_self
    rw [join_nil_cons]
    exact ⟨by rw [app_len, h1, i1, List.length_cons]; omega, low_app h2 i2⟩
/-- fewer than 26 words leave a letter free -/
theorem nodup_sub_len {α : Type} [DecidableEq α] : ∀ {xs ys : List α}, xs.Nodup → (∀ x ∈ xs, x ∈ ys) → xs.length ≤ ys.length
  | [], _, _, _ => Nat.zero_le _
  | x :: xs, ys, h, hs => by
    obtain ⟨h1, h2⟩ := List.nodup_cons.mp h
    have hx : x ∈ ys := hs x List.mem_cons_self
    have := nodup_sub_len (xs := xs) (ys := ys.erase x) h2 fun y hy => (List.mem_erase_of_ne (show y ≠ x from fun e => h1 (by rw [← e]; exact hy))).mpr (hs y (List.mem_cons_of_mem _ hy))
    rw [List.length_erase_of_mem hx] at this
    have := List.length_pos_of_mem hx
    rw [List.length_cons]
    omega
theorem sgn_inj {a b : Nat} (h : sgn a = sgn b) : a = b := by
  have := congrArg (fun s : Str => s.cps.toList) h
  simpa [sgn] using this
theorem signs_nodup : (MD.signs abc).Nodup := by
  rw [signs_abc]
  exact List.Pairwise.map (R := fun a b => a ≠ b) _ (fun a b h e => h (by have := sgn_inj e; omega)) List.nodup_range
theorem free_letter {found : List Str} (h : found.length < 26) : ∃ s ∈ MD.signs abc, s ∉ found := by
  refine Classical.byContradiction fun hn => ?_
  have : ∀ s ∈ MD.signs abc, s ∈ found := fun s hs => Classical.byContradiction fun hf => hn ⟨s, hs, hf⟩
  have h2 := nodup_sub_len signs_nodup this
  rw [signs_abc, List.length_map, List.length_range] at h2
  omega
/-! ### pieces of texts and lists -/
theorem cutS_to (z : Str) {n : Nat} (h : n ≤ z.length) : (cutS z none (some (n : Int))).cps.toList = z.cps.toList.take n := by
  unfold cutS
  rw [HT.sIx_none, HT.sIx_nat, Nat.min_eq_left h]
  simp
theorem cutS_from (z : Str) {n : Nat} (h : n ≤ z.length) : (cutS z (some (n : Int)) none).cps.toList = z.cps.toList.drop n := by
  unfold cutS
  rw [HT.sIx_none, HT.sIx_nat, Nat.min_eq_left h]
  simp only [List.drop_zero, List.toList_toArray]
  exact List.take_of_length_le (by rw [List.length_drop, str_len]; omega)
theorem take_step {α : Type} {xs : List α} {i : Nat} {x : α} (h : xs[i]? = some x) : xs.take (i + 1) = xs.take i ++ [x] := by
  rw [List.take_add_one, h]
  rfl
theorem get_mem {α : Type} {xs : List α} {i : Nat} {x : α} (h : xs[i]? = some x) : x ∈ xs := List.mem_of_getElem? h
theorem pyIx_nat {α : Type} [Inhabited α] {xs : List α} {i : Int} (h0 : 0 ≤ i) (h1 : i < xs.length) : ∃ x, pyIx xs i = x ∧ xs[i.toNat]? = some x := by
  unfold pyIx atI
  have e : ixN xs.length i = some i.toNat := by unfold ixN; rw [if_pos h0, if_pos h1]
  rw [e]
  have hl : i.toNat < xs.length := by omega
  exact ⟨xs[i.toNat], by show (xs[i.toNat]?).getD default = _; rw [List.getElem?_eq_getElem hl]; rfl, List.getElem?_eq_getElem hl⟩
theorem pyIx_mem {α : Type} [Inhabited α] {xs : List α} {i : Int} (h0 : 0 ≤ i) (h1 : i < xs.length) : pyIx xs i ∈ xs := by
  obtain ⟨x, e, h⟩ := pyIx_nat h0 h1
  rw [e]; exact get_mem h
/-! ### sharings' rows -/
abbrev SRow := Str × List Str
def desksF (rows : List SRow) : List Str := (rows.map (·.2)).flatten
def desksOf (rows : List SRow) : List Str := setS (desksF rows)
theorem desksF_mem {rows : List SRow} {d : Str} : d ∈ desksF rows ↔ ∃ r ∈ rows, d ∈ r.2 := by
  unfold desksF
  rw [List.mem_flatten]
  constructor
  · rintro ⟨l, hl, hd⟩
    obtain ⟨r, hr, rfl⟩ := List.mem_map.mp hl
    exact ⟨r, hr, hd⟩
  · rintro ⟨r, hr, hd⟩
    exact ⟨r.2, List.mem_map.mpr ⟨r, hr, rfl⟩, hd⟩
theorem setS_mem {xs : List Str} {x : Str} : x ∈ setS xs ↔ x ∈ xs := by unfold setS; rw [sortS_mem, List.mem_eraseDups]
theorem setS_nodup (xs : List Str) : (setS xs).Nodup := (sortS_perm _).nodup_iff.mpr (nodup_eraseDups xs)
theorem desksOf_mem {rows : List SRow} {d : Str} : d ∈ desksOf rows ↔ ∃ r ∈ rows, d ∈ r.2 := by unfold desksOf; rw [setS_mem, desksF_mem]
def Names (n : Int) (r : List Str) : Prop := (r.length : Int) = n ∧ r.Nodup ∧ ∀ s ∈ r, Word s
structure RowsOk (rows : List SRow) : Prop where
  ne : rows ≠ []
  len : rows.length ≤ 6
  nd : (rows.map (·.1)).Nodup
  wl : ∀ r ∈ rows, Word r.1
  dne : ∀ r ∈ rows, r.2 ≠ []
  dnd : ∀ r ∈ rows, r.2.Nodup
  dw : ∀ r ∈ rows, ∀ d ∈ r.2, Word d
  all : (desksOf rows).length ≤ 4
theorem RowsOk.of {rows acc : List SRow} (h : RowsOk rows) (hf : (acc.map (·.1)).Perm (rows.map (·.1))) (hr : ∀ r ∈ acc, r.2 ≠ [] ∧ r.2.Nodup ∧ ∀ d ∈ r.2, Word d) {ds : List Str} (hl : ds.length ≤ 4) (hd : ∀ r ∈ acc, ∀ d ∈ r.2, d ∈ ds) : RowsOk acc where
  ne := fun e => by
    subst e
    have := hf.length_eq
    simp at this
    exact h.ne (List.length_eq_zero_iff.mp this.symm)
  len := by
    have := hf.length_eq
    rw [List.length_map, List.length_map] at this
    rw [this]; exact h.len
  nd := hf.nodup_iff.mpr h.nd
  wl := fun r hr => by
    have : r.1 ∈ rows.map (·.1) := hf.mem_iff.mp (List.mem_map.mpr ⟨r, hr, rfl⟩)
    obtain ⟨r0, h0, e⟩ := List.mem_map.mp this
    rw [← e]; exact h.wl r0 h0
  dne := fun r h => (hr r h).1
  dnd := fun r h => (hr r h).2.1
  dw := fun r h => (hr r h).2.2
  all := Nat.le_trans (nodup_sub_len (setS_nodup _) fun d hdd => by
    obtain ⟨r, h1, h2⟩ := desksOf_mem.mp hdd
    exact hd r h1 d h2) hl
/-! ### dicts of rows -/
theorem dput_new {α : Type} {kvs : List (Str × α)} {x : Str} {y : α} (h : x ∉ kvs.map (·.1)) : dput kvs x y = kvs ++ [(x, y)] := by
  unfold dput
  rw [if_neg]
  intro e
  obtain ⟨p, hp, q⟩ := List.any_eq_true.mp e
  exact h (List.mem_map.mpr ⟨p, hp, by simpa using q⟩)
theorem dget_none {α : Type} {kvs : List (Str × α)} {x : Str} (h : x ∉ kvs.map (·.1)) : dget kvs x = none := by
  unfold dget
  rw [List.find?_eq_none.mpr fun p hp => by
    have : ¬ p.1 = x := fun e => h (List.mem_map.mpr ⟨p, hp, e⟩)
    simpa using this]
  rfl
/-! ### steps of comprehensions -/
section
variable {α β γ : Type}
theorem map_step {xs : List α} {i : Nat} {x : α} (g : α → γ) (h : xs[i]? = some x) : (xs.take (i + 1)).map g = (xs.take i).map g ++ [g x] := by
  rw [take_step h, List.map_append]
  rfl
theorem filt_yes {xs : List α} {i : Nat} {x : α} {p : α → Bool} (h : xs[i]? = some x) (hp : p x = true) : (xs.take (i + 1)).filter p = (xs.take i).filter p ++ [x] := by
  rw [take_step h, List.filter_append, List.filter_cons_of_pos hp]
  rfl
theorem filt_no {xs : List α} {i : Nat} {x : α} {p : α → Bool} (h : xs[i]? = some x) (hp : p x = false) : (xs.take (i + 1)).filter p = (xs.take i).filter p := by
  rw [take_step h, List.filter_append, List.filter_cons_of_neg (by simp [hp]), List.filter_nil, List.append_nil]
theorem nodup_mapOn {f : α → β} : ∀ {xs : List α}, (∀ x ∈ xs, ∀ y ∈ xs, f x = f y → x = y) → xs.Nodup → (xs.map f).Nodup
  | [], _, _ => List.nodup_nil
  | x :: xs, hf, h => by
    obtain ⟨h1, h2⟩ := List.nodup_cons.mp h
    rw [List.map_cons]
    refine List.nodup_cons.mpr ⟨fun m => ?_, nodup_mapOn (fun a ha b hb => hf a (List.mem_cons_of_mem _ ha) b (List.mem_cons_of_mem _ hb)) h2⟩
    obtain ⟨y, hy, e⟩ := List.mem_map.mp m
    have := hf y (List.mem_cons_of_mem _ hy) x List.mem_cons_self e
    exact h1 (this ▸ hy)
theorem nodup_take {xs : List α} {i : Nat} {x : α} (hn : xs.Nodup) (h : xs[i]? = some x) : x ∉ xs.take i := by
  have h2 : (xs.take (i + 1)).Nodup := hn.sublist (List.take_sublist _ _)
  rw [take_step h] at h2
  intro hm
  exact (List.nodup_append.mp h2).2.2 x hm x (List.mem_singleton.mpr rfl) rfl
theorem cutA_to {xs : List α} {n : Nat} (h : n ≤ xs.length) : cutA xs none (some (n : Int)) = xs.take n := by
  unfold cutA
  rw [HT.sIx_none, HT.sIx_nat, Nat.min_eq_left h]
  simp
theorem cutA_to' {xs : List α} {n : Nat} : cutA xs none (some (n : Int)) = xs.take n := by
  by_cases h : n ≤ xs.length
  · exact cutA_to h
  · unfold cutA
    rw [HT.sIx_none, HT.sIx_nat, Nat.min_eq_right (by omega), List.take_of_length_le (by omega : xs.length ≤ n)]
    simp
end
/-! ### words made -/
theorem join_nil_len {ls : List Str} (h : ∀ s ∈ ls, s.length = 1 ∧ Low s) : (Str.join "" ls).length = ls.length ∧ Low (Str.join "" ls) := join_letters ls h
theorem sum_len {ls : List Str} (h : ∀ s ∈ ls, s.length = 1 ∧ Low s) : (ls.map (fun x => x.length)).sum = ls.length := by
  induction ls with
  | nil => rfl
  | cons x ls ih =>
    rw [List.map_cons, List.sum_cons, ih fun s hs => h s (List.mem_cons_of_mem _ hs), (h x List.mem_cons_self).1, List.length_cons]
    omega
theorem ins_low {w s : Str} {n : Nat} (hw : Low w) (hs : Low s) (h : n ≤ w.length) : Low (cutS w none (some (n : Int)) ++ s ++ cutS w (some (n : Int)) none) := by
  refine low_app (low_app (fun c hc => ?_) hs) (fun c hc => ?_)
  · rw [cutS_to w h] at hc; exact hw c (List.mem_of_mem_take hc)
  · rw [cutS_from w h] at hc; exact hw c (List.mem_of_mem_drop hc)
theorem ins_len {w s : Str} {n : Nat} (h : n ≤ w.length) : (cutS w none (some (n : Int)) ++ s ++ cutS w (some (n : Int)) none).length = w.length + s.length := by
  rw [str_len, app_cps, app_cps, cutS_to w h, cutS_from w h, List.length_append, List.length_append, List.length_take, List.length_drop, str_len s]
  have : w.length = w.cps.toList.length := str_len w
  omega
theorem ins_inj {w s t : Str} {n : Nat} (h : n ≤ w.length) (e : cutS w none (some (n : Int)) ++ s ++ cutS w (some (n : Int)) none = cutS w none (some (n : Int)) ++ t ++ cutS w (some (n : Int)) none) : s = t := by
  have e2 := congrArg (fun z : Str => z.cps.toList) e
  simp only [app_cps] at e2
  exact str_ext (List.append_cancel_left (List.append_cancel_right e2))
theorem len_sgn (c : Nat) : (sgn c).length = 1 := rfl
theorem low_sgn {r : Nat} (h : r < 26) : Low (sgn (97 + r)) := (sgn_word h).2.2
theorem zs_low : Low "zzzzzzzz" := by
  intro c hc
  have : ∀ c ∈ (Str.ofString "zzzzzzzz").cps.toList, 97 ≤ c ∧ c ≤ 122 := by decide +kernel
  exact this c hc
theorem cutS_zs {n : Nat} (h : n ≤ 7) : (cutS "zzzzzzzz" (some (n : Int)) none).length = 8 - n ∧ Low (cutS "zzzzzzzz" (some (n : Int)) none) := by
  have hz : (Str.ofString "zzzzzzzz").length = 8 := by decide +kernel
  have e := cutS_from "zzzzzzzz" (n := n) (by show n ≤ (Str.ofString "zzzzzzzz").length; omega)
  refine ⟨?_, fun c hc => ?_⟩
  · rw [str_len, e, List.length_drop, ← str_len]
    show (Str.ofString "zzzzzzzz").length - n = _
    rw [hz]
  · rw [e] at hc
    exact zs_low c (List.mem_of_mem_drop hc)
theorem nodup_set {α : Type} : ∀ {xs : List α} {x : α} {i : Nat}, xs.Nodup → x ∉ xs → (xs.set i x).Nodup
  | [], _, _, h, _ => h
  | a :: xs, x, 0, h, hx => by
    obtain ⟨h1, h2⟩ := List.nodup_cons.mp h
    rw [List.set_cons_zero]
    exact List.nodup_cons.mpr ⟨fun m => hx (List.mem_cons_of_mem _ m), h2⟩
  | a :: xs, x, i + 1, h, hx => by
    obtain ⟨h1, h2⟩ := List.nodup_cons.mp h
    rw [List.set_cons_succ]
    refine List.nodup_cons.mpr ⟨fun m => ?_, nodup_set h2 fun m => hx (List.mem_cons_of_mem _ m)⟩
    rcases List.mem_or_eq_of_mem_set m with m | e
    · exact h1 m
    · exact hx (by rw [← e]; exact List.mem_cons_self)
/-! ### what each def asks and gives -/
def Fl (fl : List Int) : Prop := ∃ a b c : Int, fl = [a, b, c] ∧ 0 ≤ c ∧ c < 1099511627776
def pre_draw (fl : List Int) (n : Int) : Prop := Fl fl ∧ 0 < n ∧ n ≤ 1000000
def post_draw (fl : List Int) (n r : Int) (fl2 : List Int) : Prop := 0 ≤ r ∧ r < n ∧ Fl fl2
def pre_cell (x : List Int × Int) : Prop := 0 ≤ x.2
def f_cell (x : List Int × Int) : Int := if x.2 < x.1.length then pyIx x.1 x.2 else (if 0 < x.1.length then pyIx x.1 (x.2 * 7 % x.1.length) % 2147483629 * 48271 + x.2 * 7919 else x.2 * 7919 + 5) % 2147483647 * 31
def pre_flow (x : List Int × Int) : Prop := 0 ≤ x.2 ∧ x.2 ≤ 1000000
def post_flow (x : List Int × Int) (r : List Int) : Prop := Fl r
def pre_names (fl : List Int) (n : Int) : Prop := Fl fl ∧ 1 ≤ n ∧ n ≤ 8
def post_names (fl : List Int) (n : Int) (r : List Str) (fl2 : List Int) : Prop := Names n r ∧ Fl fl2
def pre_turned {α : Type} (fl : List Int) (x : List α) : Prop := Fl fl ∧ x.length ≤ 1000000
def post_turned {α : Type} (fl : List Int) (x r : List α) (fl2 : List Int) : Prop := r.Perm x ∧ Fl fl2
end KP
namespace MD
open PySem PySem.Spec PyProof.Rows L2
/-! ### a def of one thing, the caught exception, called in a suite: nothing flies out of it -/
end MD
namespace MD
open PySem PySem.Spec PyProof.Rows L2
/-! ### dict(a list of pairs) -/
/-! ### is, of truths; what is never come to -/
/-! ### a slice of an owned list put otherwise -/
theorem rc_min2 {K : PySem.W.Frag} : RCK (K := K) (fun xs H Q => ∃ i j, xs = [.int i, .int j] ∧ Q (.int (if j < i then j else i)) H) (tsC tI (ts1 tI)) tI yes1 (fun x => if x.2 < x.1 then x.2 else x.1) := fun F H vs x s ⟨v, r, e, h1, u, e2, h2⟩ c Q k => by
  subst e; subst e2; cases h1; cases h2
  exact ⟨_, _, rfl, k _ F H (Grow.refl s) rfl⟩
/-! ### equality where no cell changes -/
end MD
namespace MD
open PySem PySem.Spec PyProof.Rows L2
open PySem.Builtin PySem.Builtin.Str
/-! ### signs of pieces -/
/-! ### str.partition -/
/-! ### str.replace of written texts, a token out -/
/-! ### lists one behind another, pieces of lists, and; with effects -/
end MD
namespace MD
open PySem PySem.Spec PyProof.Rows L2
end MD
namespace MD
open PySem PySem.Spec PyProof.Rows L2
/-! ### a def within which repr may be asked: around it nothing is being shown -/
structure FnG (P : Program) (w : World) (K : PySem.W.Frag) (mg : Str → Option Value) (base : Heap) (k : Nat) (f : Addr) (fd : FuncData) (ps : List Str) (sp : Sp) : Prop where
  len : ∀ vs H Q E, sp vs H Q E → vs.length = ps.length
  run : ∀ (A : Around) (ou : List Env) (s : Shared) (H : Hp) (as : Args) (us : List Value) (vs : List V) (Q : VK) (E : XK), Room k A → A.guards = some [] → Env0 P w K mg base A ou s H → BindsTo s fd as (ps.zip us) → Vals vs us → sp vs H Q E →
    codeAny (model P w) A (.call (.ref f) as) (CR (L2.CX P w) ou P w H s Q E) s
section
variable {P : Program} {w : World} {K : PySem.W.Frag} {mg : Str → Option Value} {base : Heap} {A R γ : Type}
structure CalG (P : Program) (w : World) (K : PySem.W.Frag) (mg : Str → Option Value) (base : Heap) (nm : Str) (k : Nat) (ps : List Str) (sp : Sp) (f : Addr) (fd : FuncData) : Prop where
  F : FnG P w K mg base k f fd ps sp
  m : mg nm = some (.ref f)
  k : PySem.W.keepIn K (.ref f) = true
  b : Binds K fd ps []
theorem fn_conG {y qual : Str} {st : Stmt} {f : Addr} {fd : FuncData} {N ps : List Str} {k : Nat} (C : Con K A R γ) (F : Fun K y qual st f fd) (S : FnScope N ps (defScope st)) (hl : ∀ a, (C.ins a).length = ps.length)
    (body : ∀ (cdv : Value) (Ar : Around) (outer : List Env) (s : Shared) (H : Hp) (E : XK) (F0 : Hp) (a : A) (φ : R → Prop) (ε : Exn K → Prop), (Ar.deeper (envOfC qual (defScope st) s.heap.objs.size f cdv)).guards = some [] → Room k (Ar.deeper (envOfC qual (defScope st) s.heap.objs.size f cdv)) →
      PassesOwn (model P w) (Ar.deeper (envOfC qual (defScope st) s.heap.objs.size f cdv)) (envOfC qual (defScope st) s.heap.objs.size f cdv) (cxOf (L2.CX P w) P w K mg base N qual (defScope st) f cdv Ar outer s H E).xe →
      SK (cxOf (L2.CX P w) P w K mg base N qual (defScope st) f cdv Ar outer s H E) ⟨F0, H, C.cin a⟩ ⟨C.cin a, ε⟩ F0 (defBody st) (C.ins a ++ List.replicate (N.length - ps.length) .un) (C.cin a) (retD C a ⟨F0, H, C.cin a⟩ φ) (C.wp a φ ε)) :
    FnG P w K mg base (k + 1) f fd ps C.sp := by
  obtain ⟨oc, od, kV, doc, pm, an, cdv, ct, osl, rfl, lk, hcd⟩ := F.ex
  have hlen : ∀ vs H Q E, C.sp vs H Q E → vs.length = ps.length := fun vs H Q E ⟨a, F, h, _⟩ => by rw [← h.length]; exact hl a
  refine ⟨hlen, fun A outer s H args us vs Q E hr hgd e0 hb r hsp => ?_⟩
  have e := hlen _ _ _ _ hsp
  obtain ⟨a, F0, hv, hs, hc, hn, hw⟩ := hsp
  have inK : K.In s.heap := e0.mod.kin.keeps fun b o e => (e0.bs b o e).1
  have noL : s.heap.NoLimit := e0.mod.nolimit.keeps fun b o e => (e0.bs b o e).1
  have kinds : ∀ y ∈ ps.zip us, (defScope st).names.lookup y.1 = some .local ∨ ((defScope st).names.lookup y.1 = some .cell ∧ ((cellsFrom (s.heap.objs.size + 1) (defScope st).names []).lookup y.1).isSome = true) := fun ⟨n, v⟩ hy =>
    (S.par n (List.of_mem_zip hy).1).elim .inl fun q => .inr ⟨q, PySem.W.cellsFrom_some _ _ _ (.inl q)⟩
  refine codeAny_call_function hr.depth (inK _ _ lk) rfl S.co S.gen rfl (PySem.W.codeRec_of inK hcd) (hb _ _ _ _ ?_)
  refine wpAny_newFunctionEnv_cells S.kind kinds fun env he s1 y1 => ?_
  subst he
  refine ⟨noL.keeps y1.toInCall.keep, codeAny_func ?_⟩
  have I : Inv (cxOf (L2.CX P w) P w K mg base N qual (defScope st) f cdv A outer s H E) [] (L2.start N vs) H s1 := inv_start S hr.hd e0 e r y1
  have Bo : Mv (C.cin a) F0 H (C.cin a) F0 H := ⟨Same.refl _, hs, fun b h1 h2 => absurd h1 h2, fun b o e _ => e, hc, hn, fun c hc => .inl ⟨c, hc, rfl⟩, fun c hcm z => by
    obtain ⟨_, o, e, _⟩ := hc c hcm
    rw [e] at z; cases z⟩
  have run := body cdv A outer s H E F0 a _ _ hgd (hr.deeper _) (passes_of rfl) F0 (L2.start N vs) H ⟨by
    unfold L2.start
    rw [e]
    exact hv.start, Bo, Same.refl _⟩ hw (fun cls d _ H => E cls d H) (takes_of rfl rfl rfl rfl) (fun ex cls d cs2 F' H' σ' mv kp r ep => ep cls d F' H' ⟨mv.ff, mv.fh, mv.fr, mv.kp, fun c hc => mv.cell c (kp c hc), hn, fun c hc => .inl ⟨c, hc, rfl⟩, mv.st⟩ r) [] s1 I
  refine wpAny_mono run (fun fl s' hs => ?_) fun e s' hs => hs
  have done : ∀ {σ' : L2.St} {H' : Hp} {v : V} {u : Value}, Inv (cxOf (L2.CX P w) P w K mg base N qual (defScope st) f cdv A outer s H E) [] σ' H' s' → RelV v u → Q v H' → CE outer P w H s Q u s' :=
    fun {_ H' v _} J rv q => ⟨v, H', J.os, J.bare, J.base, J.hok, rv, q⟩
  cases fl with
  | ret u =>
    obtain ⟨v, σ', H', J, rv, z, F', m, t, q⟩ := hs
    exact done J rv (q v F' H' m t)
  | next =>
    obtain ⟨σ', H', J, z, F', m, t, q⟩ := hs
    exact done (v := V.non) (u := Value.none) J rfl (q .non F' H' m t)
  | brk =>
    obtain ⟨_, _, _, q⟩ := hs
    exact False.elim q
  | cont =>
    obtain ⟨_, _, _, q⟩ := hs
    exact False.elim q
end
/-! ### its call -/
section
variable {X : Cx} {Y : Ec X.K} {ρ : List (Slot X.K)} {cs : List (Cell X.K)} {α γ μ : Type} {pos p : Pos} {e : Expr} {es : List Expr} {k : Nat} {f : Addr} {fd : FuncData} {ps : List Str} {nm : Str} {sp : Sp} {t : TA} {E : Hp → XK}
theorem pe_callG {E : XK} (F : CalG X.prog X.w X.K X.mg X.base nm k ps sp f fd) (hr : Room k X.A) (hgd : X.A.guards = some []) (hx : Passes (L2.CX X.prog X.w) X E) (ha : PA X (e :: es) t) (hg : Gl X nm := by rfl)
    (hdb : (nm == ("__debug__" : Str)) = false := by decide) (he : starEach (e :: es) X.env = (false, eval e X.env) :: starEach es X.env := by rfl) (hpl : (backTo pos (starEach es X.env)).any (·.1) = false := by rfl) :
    PE X (.Call (.Name nm p) (e :: es) [] pos) (tCall sp [] E t) := by
  refine ⟨fun pins s σ H Q I h => ?_⟩
  refine wpAny_Call_Name_kw (ld_glob I hg F.m ?_ hdb)
  refine PySem.W.callWith_K (h₀ := X.base) I.ok.mod.kin F.k (thn (ha.run pos pins s σ H _ I h) fun us s1 ⟨vs, H1, I1, r, q⟩ => ⟨I1.kIn, ?_⟩) he hpl
  have q : sp (vs ++ []) H1 Q E := q
  rw [List.append_nil] at q
  have ul : (us ++ []).length = ps.length := by rw [List.append_nil, ← r.length]; exact F.F.len _ _ _ _ q
  have bd := F.b s1 us I1.kIn ul
  rw [List.append_nil] at bd
  refine wpAny_call (codeAny_mono (F.F.run X.A X.stack s1 H1 ⟨us, []⟩ us vs Q E hr hgd I1.env0 bd r q) fun res s2 hq => ?_)
  cases res with
  | error e => exact hx pins σ H1 s1 e s2 I1 hq
  | ok fl =>
    cases fl with
    | ret u => exact I1.after hq
    | next => exact False.elim hq
    | brk => exact False.elim hq
    | cont => exact False.elim hq
theorem pk_fnG {ins : α → List (Slot X.K)} {T : Ty X.K γ} {pre : α → Prop} {g : α → γ} {Ts : Tys X.K α} {x : α} {Pa : Prop}
    (F : CalG X.prog X.w X.K X.mg X.base nm k ps (Con.fn ins T pre g).sp f fd) (hs : Sl Ts ins) (hr : Room k X.A) (hgd : X.A.guards = some []) (ha : PAK X (e :: es) ρ cs Ts x Pa) (hg : Gl X nm := by rfl)
    (hdb : (nm == ("__debug__" : Str)) = false := by decide) (he : starEach (e :: es) X.env = (false, eval e X.env) :: starEach es X.env := by rfl) (hpl : (backTo pos (starEach es X.env)).any (·.1) = false := by rfl) :
    PK X (.Call (.Name nm p) (e :: es) [] pos) ρ cs T (g x) (Pa ∧ pre x) := fun F0 σ H ok q Q kk => by
  refine we (pe_callG F hr hgd (E := E0) passL pa_w hg hdb he hpl) ?_
  refine ha F0 σ H ok q.1 _ fun vs F1 H1 g1 r1 => ?_
  refine ⟨x, F1, by rw [List.append_nil]; exact hs F1 vs x r1, g1.fh, fun c hc => absurd hc (by simp [Con.fn]), by simp [Con.fn], q.2, fun r er v F2 H2 m rr => ?_⟩
  subst er
  exact kk v F2 H2 (g1.trans ⟨m.ff, m.fh, fun b o e => m.kp b o e fun c hc => absurd hc (by simp [Con.fn]), m.fr⟩) rr
end
/-! ### repr -/
/-- a text, of whatever signs -/
def tSx {K : PySem.W.Frag} : Ty K Str := ⟨fun _ v x => v = .str x, fun _ h => h⟩
section
variable {X : Cx}
theorem cr_repr {k : Nat} (hgd : X.A.guards = some []) (hr : Room k X.A) : CallR X (.builtin "repr") (fun xs H Q => ∃ a d, xs = [.ref a] ∧ Dp X.K H (.ref a) d ∧ d.showable = true ∧ d.hasDict = false ∧ d.depth ≤ 64 ∧ d.shown.length ≤ sizeLine ∧ Q (.str d.shown) H) := by
  intro pins s σ H xs us Q I rs ⟨a, d, e, hd, h1, h2, h3, h4, hq⟩
  subst e
  cases rs with
  | cons r1 rs =>
    cases rs
    obtain rfl : _ = Value.ref a := r1
    obtain ⟨as, hrd⟩ := Dp.reads I d (.ref a) (.ref a) hd rfl
    have hu := hr.un
    exact repr_of_reads' hrd h1 (fun e => by rw [h2] at e; cases e) hgd (by omega) (fun b o e => e) (fun h' u tk hk => ⟨.str d.shown, H, I.kept hk, ⟨u, rfl⟩, hq⟩) h4
end
theorem u_repr {K : PySem.W.Frag} {α : Type} {T : Ty K α} (D : DT T) (hb : ∀ F v x, T.rep F v x → ∃ a, v = .ref a) (hn : D.n ≤ 64) {x : α} : U1 (fun xs H Q => ∃ a d, xs = [.ref a] ∧ Dp K H (.ref a) d ∧ d.showable = true ∧ d.hasDict = false ∧ d.depth ≤ 64 ∧ d.shown.length ≤ sizeLine ∧ Q (.str d.shown) H) (sv T x)
    ((D.d x).showable = true ∧ (D.d x).hasDict = false ∧ (D.d x).shown.length ≤ sizeLine) (sv (tSx (K := K)) (D.d x).shown) := fun F H v s h c Q k => by
  have ⟨a, ea⟩ := hb F v x h
  subst ea
  exact ⟨a, D.d x, rfl, D.dp F H _ x s h, c.1, c.2.1, Nat.le_trans (D.dep x) hn, c.2.2, k _ F H (Grow.refl s) rfl⟩
theorem tT_ref {K : PySem.W.Frag} {α : Type} {Ts : Tys K α} : ∀ F v x, (tT Ts).rep F v x → ∃ a, v = .ref a := fun F v x ⟨a, _, e, _⟩ => ⟨a, e⟩
theorem tU_ref {K : PySem.W.Frag} {α : Type} {T : Ty K α} : ∀ F v x, (tU T).rep F v x → ∃ a, v = .ref a := fun F v x ⟨a, _, e, _⟩ => ⟨a, e⟩
theorem r2_eqR {K : PySem.W.Frag} : R2K (K := K) rEq tSx tSx tB yes2 (fun i j => decide (i = j)) := fun F H v w x y s h1 h2 c Q k => by
  cases h1; cases h2
  refine ⟨rfl, k _ F H (Grow.refl s) ?_⟩
  show V.bl _ = V.bl _
  rw [dec_strD]
theorem r2_neR {K : PySem.W.Frag} : R2K (K := K) rNe tSx tSx tB yes2 (fun i j => !decide (i = j)) := fun F H v w x y s h1 h2 c Q k => by
  cases h1; cases h2
  refine ⟨rfl, k _ F H (Grow.refl s) ?_⟩
  show V.bl _ = V.bl _
  rw [dec_strD]
/-! ### the law's end -/
section
variable {P : Program} {w : World} {K : PySem.W.Frag} {mg mb : Str → Option Value} {k : Nat} {fa a : Addr} {fd : FuncData} {x : Str} {sp : Sp} {s1 : Shared} {vs : List Value} {ns : List Int}
theorem law_callG (inK : K.In s1.heap) (gn : s1.heap.Ns mainGlobals mg) (bn : s1.heap.Ns builtinsNs mb) (bb : ∀ x : Str, x ≠ "__name__" → mb x = bootBuiltins x) (nl : s1.heap.NoLimit) (ge : s1.gens = #[])
    (ha : s1.heap.get? a = some { cls := .type "list", data := .seq vs.toArray }) (hi : IntsAre vs ns) (hl : ns.length ≤ sizeLine) (hr : Room k callerA)
    (F : ∀ base : Heap, K.In base → base.Ns mainGlobals mg → FnG P w K mg base k fa fd [x] sp) (hbind : ∀ (s : Shared) (u : Value), BindsTo s fd ⟨[u], []⟩ [(x, u)])
    (hsp : ∀ H : Hp, Only H → SqL K H a (ns.map V.int) → sp [.ref a] H (fun v _ => v = .bl true) fun _ _ _ => False)
    (hCX : ∀ H e s', L2.CX P w [] H s1 (fun _ _ _ => False) e s' → False) :
    codeAny (model P w) callerA (.call (.ref fa) ⟨[.ref a], []⟩) (fun r s' => r = .ok (.ret (.bool true)) ∧ OldK s1.heap s'.heap ∧ s'.os = s1.os ∧ AllBare s'.gens) s1 := by
  have vi := vals_ints hi
  have vl := hi.length
  have go : ∀ H : Hp, Only H → SqL K H a (ns.map V.int) → HOk P w H s1.heap → (∀ b, H b ≠ none → b = a) → (H a ≠ none → K.lookup a = none) →
      codeAny (model P w) callerA (.call (.ref fa) ⟨[.ref a], []⟩) (fun r s' => r = .ok (.ret (.bool true)) ∧ OldK s1.heap s'.heap ∧ s'.os = s1.os ∧ AllBare s'.gens) s1 := by
    intro H only seq ok one low
    have put : ∀ {b : Addr} {o : Obj}, s1.heap.get? b = some o → H b = none → (hidT s1.heap H).get? b = some o := fun e n => hidT_get e n
    have freeD : ∀ {b : Addr} {o : Obj} {es : Array DictEntry} {n : Nat}, s1.heap.get? b = some o → o.data = .dict es n → H b = none := fun {b o es n} e d => Classical.byContradiction fun q => by
      have eb := one b q
      subst eb
      rw [ha] at e
      cases e
      have d2 : Data.seq vs.toArray _ = Data.dict es n := d
      cases d2
    have nss : ∀ {b : Addr} {m : Str → Option Value}, s1.heap.Ns b m → (hidT s1.heap H).Ns b m := fun ⟨o, es, n, e, d, r⟩ => ⟨o, es, n, put e (freeD e d), d, r⟩
    have inH : K.In (hidT s1.heap H) := fun b o e => put (inK b o e) (Classical.byContradiction fun q => by
      have eb := one b q
      subst eb
      rw [low q] at e
      cases e)
    have md : Mod K mg (hidT s1.heap H) := ⟨inH, nss gn, ⟨mb, nss bn, bb⟩, nl.elim fun mc h => ⟨mc, nss h.1, h.2⟩⟩
    have env : Env0 P w K mg (hidT s1.heap H) callerA [] s1 H := ⟨rfl, md, fun b o e => of_hidT e, Nat.le_of_eq (hidT_size _ _), trivial, fun b hb => absurd (show b ∈ ([] : List Addr) from hb) (by simp), ok, .of_eq ge⟩
    have run := (F _ inH (nss gn)).run callerA [] s1 H ⟨[.ref a], []⟩ [.ref a] [.ref a] _ _ hr rfl env (hbind s1 (.ref a)) (.cons rfl .nil) (hsp H only seq)
    refine codeAny_mono run fun r s2 h => ?_
    cases r with
    | error e => exact (hCX H e s2 h).elim
    | ok fl =>
      cases fl with
      | next => exact False.elim h
      | brk => exact False.elim h
      | cont => exact False.elim h
      | ret u =>
        obtain ⟨v, H2, os, bare, un, ok2, rv, q⟩ := h
        have q : v = .bl true := q
        subst q
        obtain rfl : u = Value.bool true := rv
        refine ⟨rfl, OldK.of_keep fun b o e => ?_, os, bare⟩
        cases hb : H b with
        | none => exact un.keep b o e hb (by intro z; exact absurd (show b ∈ ([] : List Addr) from z) (by simp)) (by simp)
        | some t =>
          rcases only b with z | ⟨ob, xs, z⟩
          · rw [hb] at z
            cases z
          · obtain ⟨g1, _⟩ := ok b _ z
            obtain ⟨g2, _⟩ := ok2 b _ (un.frzs b ob _ z)
            rw [e] at g1
            cases g1
            exact g2
  have sz : (ns.map V.int).length ≤ sizeLine := by rw [List.length_map]; exact hl
  cases hk : K.lookup a with
  | some o =>
    have e := inK a o hk
    rw [ha] at e
    cases e
    exact go (fun _ => none) (fun _ => .inl rfl) (.inr ⟨_, vs.toArray, _, hk, rfl, rfl, rfl, by rw [List.size_toArray, vl]; exact hl, by simpa using vi⟩) (fun b u z => nomatch z) (fun b z => absurd rfl z) fun z => absurd rfl z
  | none =>
    let one : HO := .frz { cls := .type "list", data := .seq vs.toArray } (.lst (ns.map V.int))
    have at1 : ∀ {b : Addr}, b = a → (fun b => if b = a then some one else none : Hp) b = some one := fun h => if_pos h
    have at0 : ∀ {b : Addr}, b ≠ a → (fun b => if b = a then some one else none : Hp) b = none := fun h => if_neg h
    refine go (fun b => if b = a then some one else none) (fun b => ?_) (.inl (.inr ⟨{ cls := .type "list", data := .seq vs.toArray }, at1 rfl⟩)) (fun b u z => ?_) (fun b z => Classical.byContradiction fun h => z (at0 h)) fun _ => hk
    · by_cases h : b = a
      · exact .inr ⟨_, _, at1 h⟩
      · exact .inl (at0 h)
    · by_cases h : b = a
      · subst h
        have z := (at1 rfl).symm.trans z
        cases z
        exact ⟨ha, sz, vs, _, vi, ha⟩
      · exact nomatch (at0 h).symm.trans z
end
theorem walk_ofG {l : PySem.W.OpenLaw} {n k : Nat} {q : Program} {loose : List Str} {XP : (Str → Option Value) → Heap → Prop} {YP : World → Heap → Prop} {d : DefRec} {K : Params → PySem.W.Frag} {sp : World → Sp} {x : Str}
    (hn : l.most = some n) (n2 : n ≤ sizeLine) (hdf : d.params.defaults = []) (hr : Room k callerA) (hY : ∀ (w : World) (h : Heap), YP w h → (K w.params).In h)
    (F : ∀ (w : World) (mg : Str → Option Value) (fa : Addr) (h : Heap), (K w.params).In h → h.Ns mainGlobals mg → mg d.name = some (.ref fa) →
      ∃ fd : FuncData, (∀ (s : Shared) (u : Value), BindsTo s fd ⟨[u], []⟩ [(x, u)]) ∧ ∀ base : Heap, (K w.params).In base → base.Ns mainGlobals mg → FnG l.prog w (K w.params) mg base k fa fd [x] (sp w))
    (hsp : ∀ (w : World) (H : Hp) (a : Addr) (ns : List Int), ns.length ≤ n → Only H → SqL (K w.params) H a (ns.map V.int) → sp w [.ref a] H (fun v _ => v = .bl true) fun _ _ _ => False)
    (hCX : ∀ (w : World) (H : Hp) (s : Shared) (e : Value) (s' : Shared), L2.CX l.prog w [] H s (fun _ _ _ => False) e s' → False) : PySem.W.WalkO q loose XP YP l.row.toRowW d [] (fun f vs => PySem.call f vs) :=
  Att.attach_call hn hdf fun w s0 s1 mg mb fa o pm cd doc a vs ns G Y ho hd hcd hmg hobj hints hlen hg =>
    have inK := hY w _ Y
    have ⟨_, hb, hF⟩ := F w mg fa _ inK G.T.g hmg
    law_callG inK G.T.g G.T.b G.T.builtins G.T.nolimit hg hobj hints (Nat.le_trans hlen n2) hr hF hb (fun H hO hS => hsp w H a ns hlen hO hS) fun H e s' => hCX w H s1 e s'
end MD
namespace MD
open PySem PySem.Spec PyProof.Rows L2
/-! ### tuple(a list), locked -/
section
variable {X : Cx}
theorem call_tupF : CallR X (.type "tuple") (fun xs H Q => ∃ p ys, xs = [.ref p] ∧ SqL X.K H p ys ∧ ∀ l o, H l = none → o.dict = none → Q (.ref l) (upd H l (.frz o (.tup ys)))) := by
  intro pins s σ H xs us Q I r ⟨p, ys, e, hq, q⟩
  subst e
  cases r with
  | cons r1 rs =>
    cases rs
    obtain rfl : _ = Value.ref p := r1
    obtain ⟨its, rv, pl, hz⟩ := I.list hq
    have hlen := rv.length
    refine call_tuple_list pl.isList (fun h' kp => ?_) (by simp only [List.size_toArray]; omega)
    have I1 : Inv X pins σ H { s with heap := h' } := I.kept (t' := s.toks) kp
    let ob : Obj := { cls := .type "tuple", data := .seq its.toArray }
    have hg : (h'.push ob).get? h'.objs.size = some ob := Heap.get?_push_size _ rfl
    exact ⟨.ref h'.objs.size, _, I1.laid (t' := s.toks) (o := .frz ob (.tup ys)) (fun b u e => Heap.get?_push_of_some _ e) (Nat.le_refl _) ⟨hg, hz, its, rv, ⟨_, hg, rfl, _, rfl⟩⟩, rfl, q _ ob (I1.hok.fresh (Nat.le_refl _)) rfl⟩
theorem u_tupF {K : PySem.W.Frag} {α : Type} {T : Ty K α} {xs : List α} : U1 (fun vs H Q => ∃ p ys, vs = [.ref p] ∧ SqL K H p ys ∧ ∀ l o, H l = none → o.dict = none → Q (.ref l) (upd H l (.frz o (.tup ys)))) (rK T xs) True (sv (tUF T) xs) := fun F H v s ⟨a, vs, e, h, r, z⟩ _ Q k => by
  subst e
  refine ⟨a, vs, rfl, h, fun l o hl hd => ?_⟩
  have g := grow_new s hl (.frz o (.tup vs))
  exact k _ _ _ g ⟨l, vs, o, rfl, upd_same, hd, r.mono g.ff, z⟩
end
end MD
namespace MD
open PySem PySem.Spec PyProof.Rows L2
/-! ### a comprehension within one -/
def relS (scope sc : Scope) : Scope := { scope with names := scope.names.map fun (n, k) => if (k == .free && sc.kind == .function && sc.names.lookup n == some .cell) then (n, .cell) else (n, k) }
theorem blkIn_by {X : Cx} {s : Shared} {H : Hp} {scope1 : Scope} {cl : List (Str × Addr)} {C : Addr} {fp : List Addr} {N : List Str} {sc scope2 : Scope} {own : List (Str × Nat)} (hN : X.N = N) (hs : X.env.scope = sc) (h : blkC N (relS scope1 sc) scope2 own = true) :
    BlkOk (X.blk s H scope1 (compEnvC scope1 cl C X.env) fp).N (X.blk s H scope1 (compEnvC scope1 cl C X.env) fp).env.scope scope2 own := by
  subst hN
  subst hs
  exact blkOk_by h
end MD
/-! MDah: sets of ints made of a list, and sorted. -/
namespace MD
open PySem PySem.Spec PyProof.Rows L2
theorem ints_at : ∀ {us : List Value} {xs : List Int}, IntsAre us xs → ∀ (i : Nat) (v : Value), us[i]? = some v → ∃ x t, xs[i]? = some x ∧ v = .int x t
  | _, _, .nil, _, _, h => by simp at h
  | _, _, .cons _ _ r, 0, v, h => by
    have h : _ = v := Option.some.inj h
    exact ⟨_, _, rfl, h.symm⟩
  | _, _, .cons _ _ r, i + 1, v, h => ints_at r i v h
section
variable {P : Program} {w : World} {A : Around} {E : Value → Shared → Prop} {s : Shared} {a : Addr}
theorem setI_loop {I : Addr} {fp wr : List Addr} {G : Array GenState → Array GenState → Prop} {n : Nat} {Pv : Nat → Value → Prop} {St : Nat → Shared → Prop} {R : Result → Shared → Prop} (W : WalksS P w A.in1 I fp wr G n Pv St) (S : Addr) (hSf : S ∉ fp) (xs : List Int) (hn : xs.length = n) (hfew : n + 1 < scanBound)
    (hval : ∀ i v, Pv i v → ∃ x t, xs[i]? = some x ∧ v = .int x t) : ∀ (k i : Nat) (s : Shared), n - i = k → i ≤ n → St i s → (∃ L m, SetR w s.heap S L m ∧ (∀ x, L x = true ↔ x ∈ xs.take i) ∧ m ≤ i) →
      (∀ s' L m, Moved (S :: wr) G s s' → SetR w s'.heap S L m → (∀ x, L x = true ↔ x ∈ xs) → m ≤ n → R (.ok (.ret .none)) s') → codeAny (model P w) A (.builtin "set.update.loop" ⟨[.ref S, .ref I], []⟩) R s := by
  have hSw : S ∉ wr := fun h => hSf (W.sub _ h)
  intro k
  induction k with
  | zero =>
    intro i s hk hi hst ⟨L, m, hS, hm, hl⟩ hR
    obtain rfl : i = n := by omega
    refine codeAny_builtin PyProof.Rows.F.entry_set_update_loop ?_
    rw [Around.under_plainId PyProof.Rows.F.plain_set_update_loop _]
    show wpAny _ A.in1 (pyNext (.ref I) >>= _) _ _ s
    refine wpAny_bind (W.done s _ _ hst fun s' mv => ?_)
    exact wpAny_pure (hR s' L m (mv.mono fun b hb => List.mem_cons_of_mem _ hb) (hS.at fun o e => mv.heap S o hSw e) (fun x => by rw [hm x, ← hn, List.take_length]) hl)
  | succ k ih =>
    intro i s hk hi hst ⟨L, m, hS, hm, hl⟩ hR
    have hlt : i < n := by omega
    refine codeAny_builtin PyProof.Rows.F.entry_set_update_loop ?_
    rw [Around.under_plainId PyProof.Rows.F.plain_set_update_loop _]
    show wpAny _ A.in1 (pyNext (.ref I) >>= _) _ _ s
    refine wpAny_bind (W.item i s _ _ hlt hst fun v s' hP hst' mv => ?_)
    obtain ⟨x, t, hx, rfl⟩ := hval i v hP
    have hS' : SetR w s'.heap S L m := hS.at fun o e => mv.heap S o hSw e
    show wpAny _ A.in1 (holding [Value.int x t] (setAdd S (.int x t)) >>= _) _ _ s'
    refine wpAny_bind (wpAny_holding ?_)
    unfold setAdd
    refine wpAny_holding (wpAny_bind ((intKind P w).pyHash (intKind_is P w x t) ?_))
    refine setR_add_hashed (s := { s' with toks := s'.toks + 1 }) hS' (by omega) fun h' sb hS2 => ?_
    refine wpAny_pure ⟨plainId_quiet PyProof.Rows.F.plain_set_update_loop _, ih (i + 1) _ (by omega) hlt (W.frame _ s' _ _ hst' (Nat.le_succ _) fun b hb o e => ?_) ⟨_, _, hS2, fun y => ?_, by split <;> omega⟩ fun s'' L2 m2 mv2 hS3 hm3 hl3 => ?_⟩
    · rw [sb.2 b fun z => hSf (by rw [← z]; exact hb)]; exact e
    · rw [Bool.or_eq_true, hm y, List.take_succ, hx, List.mem_append, decide_eq_true_eq]
      constructor
      · rintro (z | z)
        · exact .inl z
        · exact .inr (by rw [z]; exact List.mem_singleton.mpr rfl)
      · rintro (z | z)
        · exact .inl z
        · exact .inr (List.mem_singleton.mp z)
    · refine hR s'' L2 m2 (Moved.trans W.gtrans ((mv.mono fun b hb => List.mem_cons_of_mem _ hb).then_heap (Nat.le_succ _) fun b o hb e => ?_) mv2) hS3 hm3 hl3
      rw [sb.2 b fun z => hb (by rw [z]; exact List.mem_cons_self)]; exact e
theorem setI_call {l : Addr} {items : Array Value} {xs : List Int} {Q : Value → Shared → Prop} (hh : A.handled = none) (hl : s.heap.IsList l items) (hi : IntsAre items.toList xs) (few : xs.length + 1 < scanBound)
    (h : ∀ (h' : Heap) (tk : Nat) L m, SetR w h' s.heap.objs.size L m → (∀ x, L x = true ↔ x ∈ xs) → m ≤ xs.length → (∀ b o, s.heap.get? b = some o → h'.get? b = some o) → Q (.ref s.heap.objs.size) { s with heap := h', toks := tk }) :
    wpAny (model P w) A (call (.type "set") [.ref l]) Q E s := by
  obtain ⟨c, tl, hmro⟩ := PySem.F.called_set.mro
  have hmade := PySem.F.called_set.made; have hsub := PySem.F.called_set.sub
  refine wpAny_call (codeAny_of_tree ?_)
  show wpAny _ _ (callAny (.type "set") _) _ _ _
  refine wpAny_pure ⟨Code.quiet_builtin _ (by decide +kernel), codeAny_builtin PySem.F.entry_type_call ?_⟩
  rw [Around.under_plain (weight_type_call_type "set" [.ref l] []) rfl]
  have h1 := PySem.F.called_set.notType; have h2 := PySem.F.called_set.canCreate
  have hct := PySem.F.typeCall_set_1 (.ref l)
  repeat (any_goals (first | assumption | wp_step))

  let fr : Obj := { cls := .type "set", dict := none, data := .set #[] 0 (.fresh 0 0 (!w.params.followText "set-order")) }
  refine codeAny_mono (code_set_led1 (.ref l) (E := E) (Q₁ := fun obj s₁ => obj = .ref s.heap.objs.size ∧ s₁ = { s with heap := s.heap.push fr }) ⟨rfl, rfl⟩) fun r s₁ hr => ?_
  cases r with
  | error e => exact hr
  | ok flw =>
    cases flw with
    | ret obj =>
      obtain ⟨rfl, rfl⟩ := hr
      have hS : (s.heap.push fr).get? s.heap.objs.size = some fr := Heap.get?_push_size _ rfl
      have hT : Shared.TypeIs { s with heap := s.heap.push fr } (.ref s.heap.objs.size) "set" := ⟨_, hS, rfl⟩
      have hli := PySem.F.called_set.init.lookup; have hbi := PySem.F.called_set.init.bind (.ref s.heap.objs.size)
      repeat (any_goals (first | assumption | wp_step))

      refine codeAny_mono (codeAny_call_builtin (R := wants (fun r s₂ => r = .none ∧ ∃ h' tk L m, s₂ = { s with heap := h', toks := tk } ∧ SetR w h' s.heap.objs.size L m ∧ (∀ x, L x = true ↔ x ∈ xs) ∧ m ≤ xs.length ∧ (∀ b o, s.heap.get? b = some o → h'.get? b = some o)) E) PySem.F.called_set.init.plain PySem.F.entry_set_init (check_set_init_1 hT ?_)) fun r₂ s₂ hr₂ => ?_
      · obtain ⟨ol, hol, hcl, nl, hdl⟩ := hl
        obtain ⟨ocls, odict, odata, oslots⟩ := ol
        simp only at hcl hdl
        subst hcl; subst hdl
        have hol' : (s.heap.push fr).get? l = some { cls := .type "list", dict := odict, data := .seq items nl, slots := oslots } := Heap.get?_push_of_some _ hol
        have hsls := PySem.F.sub_list_set; have hslf := PySem.F.sub_list_frozenset
        have hne : (Value.type "list" == Value.type "dict") = false := by decide
        have hl1 : (s.heap.push fr).IsList l items := ⟨_, hol', rfl, nl, rfl⟩
        unfold Builtin.«set.__init__» noKeywords Builtin.Frozenset.updateFrom
        generalize hPI : pyIter = PI
        wp_walk
        subst hPI

        refine wpAny_pyIter_list hl1 (wpAny_bind (wpAny_runValue ?_))
        have hlS : l < s.heap.objs.size := Heap.lt_size hol
        have hh3 : A.in1.in1.in1.handled = none := by simp [hh]
        have hz1 : (s.heap.push fr).objs.size = s.heap.objs.size + 1 := Heap.size_push ..
        have hneI : l ≠ (s.heap.push fr).objs.size := by rw [hz1]; exact Nat.ne_of_lt (Nat.lt_succ_of_lt hlS)
        have hSf : s.heap.objs.size ∉ [(s.heap.push fr).objs.size, l] := by
          rw [hz1]; simp only [List.mem_cons, List.mem_singleton, List.not_mem_nil, or_false, not_or]
          exact ⟨Nat.ne_of_lt (Nat.lt_succ_self _), Nat.ne_of_gt hlS⟩
        have hsz : xs.length = items.size := by rw [← IntsAre.length hi, Array.length_toList]
        have hval : ∀ (i : Nat) (v : Value), items[i]? = some v → ∃ x t, xs[i]? = some x ∧ v = .int x t := fun i v hv => ints_at hi i v (by rw [Array.getElem?_toList]; exact hv)
        refine setI_loop ((Walks.list hh3 _ l hneI items).toS) s.heap.objs.size hSf xs hsz (by omega) hval (items.size - 0) 0 _ (by omega) (Nat.zero_le _) ⟨⟨_, Heap.get?_push_size _ rfl, rfl, rfl⟩, (hl1.push _)⟩ ⟨fun _ => false, 0, (setR_fresh w).at (fun o e => Heap.get?_push_of_some _ e), fun x => by simp, Nat.le_refl _⟩ ?_
        intro s' L m mv hS' hm' hl'
        obtain ⟨h', g', d', tk', os'⟩ := s'
        obtain rfl : g' = s.gens := mv.gens
        obtain rfl : d' = s.drawn := mv.drawn
        obtain rfl : os' = s.os := mv.os
        show wpAny _ _ _ _ _ _
        refine wpAny_pure ?_
        show wpAny _ _ (ret Value.none) _ _ _
        refine wpAny_pure ⟨rfl, h', tk', L, m, rfl, hS', hm', by omega, fun b o e => mv.heap b o ?_ (Heap.get?_push_of_some _ (Heap.get?_push_of_some _ e))⟩
        have hb := Heap.lt_size e
        simp only [List.mem_cons, List.mem_singleton, List.not_mem_nil, or_false, not_or]
        exact ⟨Nat.ne_of_lt hb, by rw [hz1]; exact Nat.ne_of_lt (Nat.lt_succ_of_lt hb)⟩

      · cases r₂ with
        | error e => exact hr₂
        | ok fl₂ =>
          cases fl₂ with
          | ret r =>
            obtain ⟨rfl, h', tk, L, m, rfl, hS', hm', hl', hk'⟩ := hr₂
            repeat (any_goals (first | assumption | wp_step))
            exact h _ _ _ _ hS' hm' hl' hk'
          | _ => exact hr₂.elim
    | _ => exact hr.elim
end
section
variable {X : Cx}
def rSetI (K : PySem.W.Frag) (w : World) : List V → Hp → VK → Prop := fun vs H Q => ∃ (l : Addr) (xs : List Int), vs = [V.ref l] ∧ SqL K H l (xs.map V.int) ∧ xs.length < 4000 ∧ ∀ S m p, (∀ x, S x = true ↔ x ∈ xs) → m ≤ xs.length → H p = none → Q (.ref p) (upd H p (SetO w p S m))
theorem cr_setI (hc : X.calm = true) : CallR X (.type "set") (rSetI X.K X.w) := by
  intro pins s σ H vs us Q I r h
  obtain ⟨l, xs, rfl, hs, few, q⟩ := h
  obtain ⟨its, rv, hl, _⟩ := I.list hs
  rw [Vals.ref1 r]
  refine setI_call (I.ok.hd hc) hl.isList (by simpa using ints_of_vals rv) (by unfold scanBound; omega) fun h' tk S m R hm hlen kp => ?_
  exact ⟨.ref _, _, I.laid (t' := tk) (o := SetO X.w s.heap.objs.size S m) kp (Nat.le_refl _) (setO_new R), rfl, q S m _ hm hlen (I.hok.fresh (Nat.le_refl _))⟩
end
/-- the ints of a list, each once, rising -/
def sortI1 (xs : List Int) : List Int := (xs.eraseDups).mergeSort (fun a b => decide (a ≤ b))
theorem sortI1_mem {xs : List Int} {x : Int} : x ∈ sortI1 xs ↔ x ∈ xs := by unfold sortI1; rw [List.mem_mergeSort, List.mem_eraseDups]
theorem sortI1_pw (xs : List Int) : (sortI1 xs).Pairwise (· < ·) := by
  have h1 : (sortI1 xs).Pairwise (· ≤ ·) := by
    have := List.pairwise_mergeSort (le := fun a b : Int => decide (a ≤ b)) (fun a b c h1 h2 => decide_eq_true (Int.le_trans (of_decide_eq_true h1) (of_decide_eq_true h2))) (fun a b => by simp; omega) xs.eraseDups
    exact this.imp fun h => of_decide_eq_true h
  have h2 : (sortI1 xs).Nodup := (List.mergeSort_perm _ _).nodup_iff.mpr (nodup_eraseDups xs)
  exact lt_of_le_nodup _ h1 h2
theorem pw_ext : ∀ {xs ys : List Int}, xs.Pairwise (· < ·) → ys.Pairwise (· < ·) → (∀ x, x ∈ xs ↔ x ∈ ys) → xs = ys
  | [], [], _, _, _ => rfl
  | [], y :: ys, _, _, h => nomatch (h y).mpr List.mem_cons_self
  | x :: xs, [], _, _, h => nomatch (h x).mp List.mem_cons_self
  | x :: xs, y :: ys, h1, h2, h => by
    obtain ⟨a1, a2⟩ := List.pairwise_cons.mp h1
    obtain ⟨b1, b2⟩ := List.pairwise_cons.mp h2
    have e : x = y := by
      have p := (h x).mp List.mem_cons_self
      have q := (h y).mpr List.mem_cons_self
      rcases List.mem_cons.mp p with p | p
      · exact p
      · rcases List.mem_cons.mp q with q | q
        · exact q.symm
        · have := b1 x p
          have := a1 y q
          omega
    subst e
    congr 1
    refine pw_ext a2 b2 fun z => ⟨fun hz => ?_, fun hz => ?_⟩
    · rcases List.mem_cons.mp ((h z).mp (List.mem_cons_of_mem _ hz)) with q | q
      · have := a1 z hz
        omega
      · exact q
    · rcases List.mem_cons.mp ((h z).mpr (List.mem_cons_of_mem _ hz)) with q | q
      · have := b1 z hz
        omega
      · exact q
theorem sortI1_of {xs ys : List Int} (h : ys.Pairwise (· < ·)) (e : ∀ x, x ∈ ys ↔ x ∈ xs) : ys = sortI1 xs := pw_ext h (sortI1_pw xs) fun x => by rw [e, sortI1_mem]
section
variable {K : PySem.W.Frag}
/-- a set of the ints of xs -/
def rI (w : World) (xs : List Int) : Vw := fun _ H v => ∃ p S m, v = .ref p ∧ H p = some (SetO w p S m) ∧ (∀ x, S x = true ↔ x ∈ xs) ∧ m ≤ xs.length
theorem u_setI {w : World} {xs : List Int} : U1 (rSetI K w) (rK (tI (K := K)) xs) (xs.length < 4000) (rI w xs) := fun F H v s ⟨a, vs, e, h, r, z⟩ c Q k => by
  subst e
  obtain rfl := rl_ints r
  refine ⟨a, xs, rfl, h, c, fun S m p hm hl hp => ?_⟩
  have g := grow_upd (o := SetO w p S m) (Grow.refl s) hp
  exact k _ F _ g.1 ⟨p, S, m, rfl, upd_same, hm, hl⟩
end
end MD
namespace MD
open PySem PySem.Spec PyProof.Rows L2
/-! ### a def whose value is told by a promise -/
section
variable {X : Cx} {Y : Ec X.K} {ρ : List (Slot X.K)} {cs : List (Cell X.K)} {α γ μ : Type} {pos : Pos} {e : Expr}
def Con.fp {K : PySem.W.Frag} (ins : α → List (Slot K)) (T : Ty K γ) (pre : α → Prop) (post : α → γ → Prop) : Con K α γ γ where
  ins := ins
  cin := fun _ => []
  wp := fun a φ _ => pre a ∧ ∀ r, post a r → φ r
  T := T
  rv := fun r => r
  cout := fun _ _ => []
  mono := fun _ _ _ _ _ h _ w => ⟨w.1, fun r c => h r (w.2 r c)⟩
theorem ek_fp {k : Nat} {f : Addr} {fd : FuncData} {ps : List Str} {nm : Str} {p : Pos} {es : List Expr} {ins : α → List (Slot X.K)} {T : Ty X.K γ} {pre : α → Prop} {post : α → γ → Prop} {Ts : Tys X.K α} {vl : μ → α} {cs1 : μ → List (Cell X.K)} {M : (μ → Prop) → Prop}
    (F : FnOk X.prog X.w X.K X.mg X.base (L2.CX X.prog X.w) k f fd ps (Con.fp ins T pre post).sp) (hs : Sl Ts ins) (hr : Room k X.A) (hm : X.mg nm = some (.ref f)) (hk : PySem.W.keepIn X.K (.ref f) = true) (hb : Binds X.K fd ps [])
    (ha : AK X Y (e :: es) ρ cs Ts vl cs1 M) (hg : Gl X nm := by rfl) (hdb : (nm == ("__debug__" : Str)) = false := by decide) (he : starEach (e :: es) X.env = (false, eval e X.env) :: starEach es X.env := by rfl) (hpl : (backTo pos (starEach es X.env)).any (·.1) = false := by rfl) :
    EK X Y (.Call (.Name nm p) (e :: es) [] pos) ρ cs T (fun y : μ × γ => y.2) (fun y => cs1 y.1) (fun φ => M fun y => pre (vl y) ∧ ∀ r, post (vl y) r → φ (y, r)) := fun F0 σ H ok xh φ q Q kk => by
  refine we (pe_call F hr hg hm hk hb .nil (E := E0) (passL) pa_w hdb he hpl) ?_
  refine ha F0 σ H ok xh _ q _ fun y vs F1 H1 m1 r1 q1 => ?_
  have ok1 := ok.mv m1
  refine ⟨vl y, F1, by rw [List.append_nil]; exact hs F1 vs (vl y) r1, m1.fh, fun c hc => absurd hc (by simp [Con.fp]), by simp [Con.fp], q1.1, fun r er v F2 H2 m rr => ?_⟩
  exact kk (y, r) v F2 H2 (m1.trans (ok1.grow ⟨m.ff, m.fh, fun b o e => m.kp b o e fun c hc => absurd hc (by simp [Con.fp]), m.fr⟩)) rr (q1.2 r er)
section
variable {fl : Hp} {B : Hb X.K} {rest : List Stmt} {D : Ends}
theorem sk_retP {ins : α → List (Slot X.K)} {T : Ty X.K γ} {pre : α → Prop} {post : α → γ → Prop} {a : α} {ψ : γ → Prop} {n b' c' : L2.St → Hp → Prop} {x : γ} {P : Prop} {r : List Stmt} (he : PK X e ρ [] T x P) :
    SK X B Y fl (.Return (some e) pos :: r) ρ [] { retD (Con.fp ins T pre post) a B ψ with nx := n, bk := b', ct := c' } (P ∧ ψ x) := sk_ret (C := Con.fp ins T pre post) x he rfl rfl
theorem sk_retPE {ins : α → List (Slot X.K)} {T : Ty X.K γ} {pre : α → Prop} {post : α → γ → Prop} {a : α} {ψ : γ → Prop} {n b' c' : L2.St → Hp → Prop} {vl : μ → γ} {cs' : μ → List (Cell X.K)} {M : (μ → Prop) → Prop} {r : List Stmt} (he : EK X Y e ρ [] T vl cs' M) (hc : ∀ y, cs' y = []) :
    SK X B Y fl (.Return (some e) pos :: r) ρ [] { retD (Con.fp ins T pre post) a B ψ with nx := n, bk := b', ct := c' } (M fun y => ψ (vl y)) := sk_retE (C := Con.fp ins T pre post) vl he (fun _ => rfl) fun y => (hc y).symm
end
end
end MD
namespace MD
open PySem PySem.Spec PyProof.Rows L2
end MD
namespace MD
open PySem PySem.Spec PyProof.Rows L2
end MD
namespace MD
open PySem PySem.Spec PyProof.Rows L2
end MD
namespace MD
open PySem PySem.Spec PyProof.Rows L2
/-! ### max(xs, default=d) of ints -/
def maxI (d : Int) : List Int → Int
  | [] => d
  | n :: ns => ns.foldl max n
section
variable {X : Cx} {fl : Hp} {B : Hb X.K} {Y : Ec X.K} {ρ : List (Slot X.K)} {cs : List (Cell X.K)} {A R α β γ δ μ ν : Type} {pos : Pos} {rest : List Stmt} {D : Ends} {e : Expr}
/-! ### what is read only: owned lists as frozen ones, for an expression whose value is flat -/
/-! ### a new owned list, or a refusal -/
def Con.nx {K : PySem.W.Frag} {A δ : Type} (xa : XA) (ins : A → List (Slot K)) (T0 : Ty K δ) (pre : A → Prop) (g : A → List δ ⊕ Rf) : Con K A (Addr × List δ) Addr where
  ins := ins
  cin := fun _ => []
  wp := fun a φ ε => pre a ∧ (∀ c, g a = .inl c → ∀ l, φ (l, c)) ∧ ∀ e, g a = .inr e → ε (exn xa e)
  T := tR
  rv := fun r => r.1
  cout := fun _ r => [⟨r.1, cL T0 r.2⟩]
  mono := fun _ _ _ _ _ h h' w => ⟨w.1, fun c e l => h (l, c) (w.2.1 c e l), fun e q => h' _ (w.2.2 e q)⟩
end
end MD
namespace MD
open PySem PySem.Spec PyProof.Rows L2
section
variable {X : Cx} {fl : Hp} {B : Hb X.K} {Y : Ec X.K} {ρ : List (Slot X.K)} {cs : List (Cell X.K)} {κ α μ : Type} [DecidableEq κ] {pos : Pos} {rest : List Stmt} {D : Ends} {e : Expr}
/-! ### {k: v} -/
theorem okw_put {F H : Hp} {σ : L2.St} {p : Addr} {o : HO} (ok : Okw ρ cs F σ H) (hp : H p = none) : Okw ρ cs F σ (upd H p o) ∧ F p = none := by
  have hne : ∀ b u, H b = some u → b ≠ p := fun b u e z => by rw [z, hp] at e; cases e
  refine ⟨⟨ok.env, fun b u e => by rw [upd_ne (hne b u (ok.same _ _ e))]; exact ok.same _ _ e, fun c hc => ?_⟩, ok.same.free hp⟩
  obtain ⟨u, h1, h2⟩ := ok.cell c hc
  exact ⟨u, by rw [upd_ne (hne _ _ h1)]; exact h1, h2⟩
/-- the pair of a display, evaluated while the new dict stands empty -/
theorem disp_at {TK : Ty X.K κ} {kt : KT TK} {T : Ty X.K α} {ke ve : Expr} {x : κ} {y : α} {P1 P2 : Prop} {F H : Hp} {σ : L2.St} (hk : PK X ke ρ cs TK x P1) (hv : PK X ve ρ cs T y P2) (ok : Okw ρ cs F σ H) (p : P1 ∧ P2) {Q : VK}
    (k : ∀ a F' H' es, H a = none → F a = none → Grow F (upd H a (.dK [])) F' H' → F' a = none → H' a = some (.dK []) → Re kt T F' es [(x, y)] → es.length ≤ sizeLine → Q (.ref a) (upd H' a (.dK es))) : tDisp [(WE X ke, WE X ve)] σ H Q := fun a ha => by
  obtain ⟨ok1, hF⟩ := okw_put (o := .dK []) ok ha
  refine hk F σ _ ok1 p.1 _ fun v1 F1 H1 g1 r1 => ?_
  refine hv F1 σ H1 (ok1.grow g1) p.2 _ fun v2 F2 H2 g2 r2 => ?_
  have g := g1.trans g2
  have h2 : H2 a = some (.dK []) := g.hh _ _ upd_same
  have hf2 : F2 a = none := by
    cases q : F2 a with
    | none => rfl
    | some w =>
      have := g.fr a hF (by rw [q]; simp)
      rw [upd_same] at this
      cases this
  have e1 := kt.val _ _ _ r1
  subst e1
  have hr : Re kt T F2 [(kt.kf x, v2)] [(x, y)] := .cons ⟨rfl, TK.mono g2.ff r1, r2⟩ .nil
  exact ⟨h2, [(kt.kf x, v2)], rfl, Nat.le_of_ble_eq_true rfl, k a F2 H2 _ ha hF g hf2 h2 hr (Nat.le_trans (by decide : 1 ≤ 1) (by rw [sizeLine_eq]; decide))⟩
/-- x = {k: v} -/
theorem sk_setDisp {TK : Ty X.K κ} (kt : KT TK) {T : Ty X.K α} {ke ve : Expr} {x : κ} {y : α} {P1 P2 : Prop} {i : Nat} {nm : Str} {pos' p2 : Pos} {φ : Addr → List (κ × α) → Prop} (hN : X.N.Nodup) (hk : PK X ke ρ cs TK x P1) (hv : PK X ve ρ cs T y P2)
    (k : ∀ a z, SK X B Y fl rest (ρ.set i (.val tR a)) (cs ++ [⟨a, cD kt T z⟩]) D (φ a z)) (hi : X.N[i]? = some nm := by rfl) (hx : Loc X.env.scope nm := by first | exact Or.inl rfl | exact Or.inr rfl)
    (hs : swapsWith (.Dict [some ke] [ve] p2) (some (.Name nm pos')) pos.line X.env = pure false := by rfl) (hf : X.fn nm = true ∨ X.env.scope.names.lookup nm = some .local := by first | exact .inl rfl | exact .inr rfl) :
    SK X B Y fl (.Assign [.Name nm pos'] (.Dict [some ke] [ve] p2) pos :: rest) ρ cs D ((P1 ∧ P2) ∧ ∀ a z, z = [(x, y)] → φ a z) := fun F σ H ok p W tk hx' => by
  refine wb (pss_cons (ps_set hN hi hx (pe_disp (pps_cons pe_w pe_w pps_nil) rfl rfl (fun z => by cases z) (Nat.le_of_ble_eq_true rfl)) hs hf) pss_w) ?_
  show tDisp [(WE X ke, WE X ve)] σ H fun x H1 => gName i x σ H1 (WB X rest D)
  refine disp_at (kt := kt) hk hv ok.c.w p.1 fun a F' H' es ha hF g hf2 h2 hr hz => ?_
  have c0 := ok.c
  have hne : ∀ c ∈ cs, c.a ≠ a := fun c hc z => by
    obtain ⟨_, o, e1, _⟩ := c0.cell c hc
    rw [z, ha] at e1
    cases e1
  have m : Mv cs F H (cs ++ [⟨a, cD kt T [(x, y)]⟩]) F' (upd H' a (.dK es)) := by
    refine ⟨g.ff, fun b u e => ?_, fun b n1 n2 => ?_, fun b u e _ => ?_, fun c hc => ?_, ?_, fun c hc => ?_, fun c hc n => ?_⟩
    · have : b ≠ a := fun z => by rw [z, hf2] at e; cases e
      rw [upd_ne this]
      exact g.fh _ _ e
    · have := g.fr b n1 n2
      by_cases z : b = a
      · rw [z]; exact ha
      · rw [upd_ne z] at this; exact this
    · have : b ≠ a := fun z => by rw [z, ha] at e; cases e
      rw [upd_ne this]
      exact g.hh _ _ (by rw [upd_ne this]; exact e)
    · rcases List.mem_append.mp hc with hc | hc
      · obtain ⟨n, o, e1, r⟩ := c0.cell c hc
        have e2 : H' c.a = some o := g.hh _ _ (by rw [upd_ne (hne c hc)]; exact e1)
        refine ⟨?_, o, by rw [upd_ne (hne c hc)]; exact e2, c.ck.mono g.ff r⟩
        cases q : F' c.a with
        | none => rfl
        | some w =>
          have := g.fr c.a n (by rw [q]; simp)
          rw [upd_ne (hne c hc), e1] at this
          cases this
      · obtain rfl := List.mem_singleton.mp hc
        exact ⟨hf2, _, upd_same, es, rfl, hr, hz⟩
    · rw [List.map_append]
      refine List.nodup_append.mpr ⟨c0.nd, by simp, fun u hu v hv => ?_⟩
      obtain ⟨c, hc, rfl⟩ := List.mem_map.mp hu
      have : v = a := by simpa using hv
      rw [this]
      exact hne c hc
    · rcases List.mem_append.mp hc with hc | hc
      · exact .inl ⟨c, hc, rfl⟩
      · obtain rfl := List.mem_singleton.mp hc
        exact .inr ha
    · obtain ⟨_, o, e1, _⟩ := c0.cell c hc
      rw [upd_ne (hne c hc), g.hh _ _ (by rw [upd_ne (hne c hc)]; exact e1)] at n
      cases n
  exact k a _ F' _ _ ((ok.to m).set (T := tR) i rfl) (p.2 a _ rfl) W tk hx'
/-! ### d.update(d2) -/
end
end MD
namespace MD
open PySem PySem.Spec PyProof.Rows L2
end MD
namespace MD
open PySem PySem.Spec PyProof.Rows L2
section
variable {X : Cx} {fl : Hp} {B : Hb X.K} {Y : Ec X.K} {ρ : List (Slot X.K)} {cs : List (Cell X.K)} {A R S α β γ δ μ ν : Type} {pos : Pos} {rest : List Stmt} {D : Ends} {e : Expr}
/-! ### calls with several owned things; what is given back may be some of them -/
def Con.os {K : PySem.W.Frag} {A R S : Type} (ins : A → List (Slot K)) (cin : A → List (Cell K)) (T : Ty K R) (pre : A → Prop) (post : A → S → Prop) (rvf : S → R) (cout : A → S → List (Cell K)) : Con K A S R where
  ins := ins
  cin := cin
  wp := fun a φ _ => pre a ∧ ∀ s, post a s → φ s
  T := T
  rv := rvf
  cout := cout
  mono := fun _ _ _ _ _ h _ w => ⟨w.1, fun s e => h s (w.2 s e)⟩
/-! ### an owned list, its place told with effects -/
end
end MD
namespace MD
open PySem PySem.Spec PyProof.Rows L2
end MD
namespace MD
open PySem PySem.Spec PyProof.Rows L2
/-! ### an owned list lent as a frozen one to a call that leaves owned things -/
end MD
namespace MD
end MD
namespace MD
open PySem PySem.Spec PyProof.Rows L2
/-! ### a list of written places; a def as a value; owned lists lent, all at once -/
section
variable {K : PySem.W.Frag} {α β γ : Type}
def tLt (Ts : Tys K α) : Ty K α := ⟨fun F v x => ∃ a vs, v = .ref a ∧ F a = some (.lst vs) ∧ Ts.rep F vs x, fun e ⟨a, vs, h1, h2, h3⟩ => ⟨a, vs, h1, e _ _ h2, Ts.mono e h3⟩⟩
/-- a def as a value -/
def tFn (f : Addr) : Ty K Unit := ⟨fun _ v _ => v = .ref f, fun _ h => h⟩
end
section
variable {X : Cx} {fl : Hp} {B : Hb X.K} {Y : Ec X.K} {ρ : List (Slot X.K)} {cs : List (Cell X.K)} {A R α β γ δ μ ν : Type} {pos : Pos} {rest : List Stmt} {D : Ends} {e : Expr}
theorem gk_lstT {tgs : List Expr} {k0 : Nat} {Ts : Tys X.K α} {G : List (Slot X.K) → α → List (Slot X.K)} {vs : List Nat} {n : Nat} (hc : X.calm = true) (h : GsK X tgs Ts G vs) (hl : ∀ F us x, Ts.rep F us x → us.length = n)
    (hn : (assignEach tgs X.env).length = n := by rfl) (hst : (assignEach tgs X.env).findIdx? (·.1) = none := by rfl) : GK X (.Tuple tgs k0 pos) (tLt Ts) G vs := fun F σ H v x ρ hρ hs ⟨a, us, e, hq, r⟩ Q k => by
  subst e
  refine wg (pg_unl hc pgs_w hn hst) ?_
  exact ⟨a, us, rfl, SqL.of (hs _ _ hq), hl F us x r, h F σ H us x ρ hρ hs r Q k⟩
theorem pk_fnv {nm : Str} {f : Addr} (hm : X.mg nm = some (.ref f)) (hg : Gl X nm := by rfl) (hd : (nm == ("__debug__" : Str)) = false := by decide) : PK X (.Name nm pos) ρ cs (tFn f) () True := pk_glob (v := .ref f) hm rfl (fun _ => rfl) hg hd
end
/-! ### all owned lists lent -/
end MD
namespace MD
open PySem PySem.Spec PyProof.Rows L2
end MD
namespace MD
open PySem PySem.Spec PyProof.Rows L2
end MD
namespace MD
open PySem PySem.Spec PyProof.Rows L2
end MD
namespace MD
open PySem PySem.Spec PyProof.Rows L2
end MD
namespace MD
open PySem PySem.Spec PyProof.Rows L2
/-! ### a comprehension whose element may raise -/
end MD
namespace MD
open PySem PySem.Spec PyProof.Rows L2
end MD
namespace MD
open PySem PySem.Spec PyProof.Rows L2
end MD
namespace MD
open PySem PySem.Spec PyProof.Rows L2
end MD
namespace MD
open PySem PySem.Spec PyProof.Rows L2
end MD
namespace MD
open PySem PySem.Spec PyProof.Rows L2
theorem sk_endFx {X : Cx} {fl : Hp} {B : Hb X.K} {Y : Ec X.K} {ρ : List (Slot X.K)} {A : Type} {xa : XA} {ins : A → List (Slot X.K)} {pre : A → Prop} {g : A → Unit ⊕ Rf} {a : A} {ψ : Unit → Prop} {b' c' : L2.St → Hp → Prop} :
    SK X B Y fl [] ρ [] { retD (Con.fx xa ins tN pre g) a B ψ with bk := b', ct := c' } (ψ ()) := sk_end (C := Con.fx xa ins tN pre g) () (fun _ => rfl) rfl
end MD
/-! ### == of dicts with tuple keys -/
namespace MD
open PySem PySem.W PySem.Calls PyProof.Rows PyProof.V PySem.Spec
end MD
namespace MD
open PySem PySem.Spec PyProof.Rows L2
end MD
namespace MD
open PySem PySem.Spec PyProof.Rows L2
section
variable {K : PySem.W.Frag} {κ α β γ : Type}
/-! ### dicts whose keys are tuples of whole numbers and texts -/
structure KTt (T : Ty K κ) where
  kf : κ → List Key
  inj : ∀ x y, kf x = kf y → x = y
  val : ∀ F v x, T.rep F v x → ∃ b, v = .ref b ∧ F b = some (.tup ((kf x).map kV))
def kII : KTt (tT (tsC (tI (K := K)) (ts1 tI))) := ⟨fun x => [.inl x.1, .inl x.2], fun x y h => by
  simp only [List.cons.injEq, Sum.inl.injEq, and_true] at h
  exact Prod.ext h.1 h.2, fun F v x ⟨a, vs, e, h, v1, r1, e1, t1, v2, e2, t2⟩ => ⟨a, e, by
    subst e1 e2
    rw [h]
    have t1 : v1 = .int x.1 := t1
    have t2 : v2 = .int x.2 := t2
    rw [t1, t2]
    rfl⟩⟩
def EntT {TK : Ty K κ} (k : KTt TK) (T : Ty K α) (F : Hp) (e : List Key × V) (p : κ × α) : Prop := e.1 = k.kf p.1 ∧ T.rep F e.2 p.2
def ReT {TK : Ty K κ} (k : KTt TK) (T : Ty K α) (F : Hp) : List (List Key × V) → List (κ × α) → Prop := Paired (EntT k T F)
theorem ReT.mono {TK : Ty K κ} {k : KTt TK} {T : Ty K α} {F F' : Hp} {es kvs} (e : Same F F') (h : ReT k T F es kvs) : ReT k T F' es kvs := paired_mono (fun _ _ r => ⟨r.1, T.mono e r.2⟩) h
theorem ReT.length {TK : Ty K κ} {k : KTt TK} {T : Ty K α} {F : Hp} {es : List (List Key × V)} {kvs : List (κ × α)} (h : ReT k T F es kvs) : es.length = kvs.length := Paired.length h
def cDt {TK : Ty K κ} (k : KTt TK) (T : Ty K α) (kvs : List (κ × α)) : CK K := ⟨fun F o => ∃ es, o = .dT es ∧ ReT k T F es kvs ∧ es.length ≤ sizeLine, fun e ⟨es, h, r, z⟩ => ⟨es, h, r.mono e, z⟩⟩
def tDt {TK : Ty K κ} (k : KTt TK) (T : Ty K α) : Ty K (List (κ × α)) := ⟨fun F v kvs => ∃ a es, v = .ref a ∧ F a = some (.dT es) ∧ ReT k T F es kvs ∧ es.length ≤ sizeLine, fun e ⟨a, es, h1, h2, r, z⟩ => ⟨a, es, h1, e _ _ h2, r.mono e, z⟩⟩
def rDt {TK : Ty K κ} (k : KTt TK) (T : Ty K α) (kvs : List (κ × α)) : Vw := fun F H v => ∃ a es, v = .ref a ∧ H a = some (.dT es) ∧ ReT k T F es kvs ∧ es.length ≤ sizeLine
section
variable [DecidableEq κ] {TK : Ty K κ} {k : KTt TK} {T : Ty K α} {F : Hp}
theorem kfT_dec (k : KTt TK) (x y : κ) : decide (k.kf x = k.kf y) = decide (x = y) := decide_eq_decide.mpr ⟨k.inj x y, fun e => by rw [e]⟩
theorem reT_val {es : List (List Key × V)} {kvs : List (κ × α)} (h : ReT k T F es kvs) (x : κ) : (valV es (k.kf x) = none ∧ dget kvs x = none) ∨ ∃ v y, valV es (k.kf x) = some v ∧ dget kvs x = some y ∧ T.rep F v y := by
  induction h with
  | nil => exact .inl ⟨rfl, rfl⟩
  | @cons e p es' kvs' r _ ih =>
    by_cases q : p.1 = x
    · refine .inr ⟨e.2, p.2, ?_, ?_, r.2⟩
      · exact valV_pos (by rw [r.1, q])
      · unfold dget; rw [List.find?_cons_of_pos (by simpa using q)]; rfl
    · have e1 : valV (e :: es') (k.kf x) = valV es' (k.kf x) := valV_neg fun z => q (k.inj _ _ (r.1.symm.trans z))
      have e2 : dget (p :: kvs') x = dget kvs' x := by unfold dget; rw [List.find?_cons_of_neg (by simpa using q)]
      rw [e1, e2]
      exact ih
theorem reT_any {es : List (List Key × V)} {kvs : List (κ × α)} (h : ReT k T F es kvs) (x : κ) : (es.any fun kv => decide (kv.1 = k.kf x)) = kvs.any fun p => decide (p.1 = x) := by
  induction h with
  | nil => rfl
  | cons r _ ih => rw [List.any_cons, List.any_cons, ih, r.1, kfT_dec]
theorem reT_map {es : List (List Key × V)} {kvs : List (κ × α)} (h : ReT k T F es kvs) {x : κ} {v : V} {y : α} (r : T.rep F v y) : ReT k T F (es.map fun kv => if kv.1 = k.kf x then (kv.1, v) else kv) (kvs.map fun p => if p.1 = x then (p.1, y) else p) := by
  induction h with
  | nil => exact .nil
  | @cons e p es' kvs' q _ ih =>
    refine .cons ?_ ih
    by_cases hx : p.1 = x
    · have h1 : e.1 = k.kf x := by rw [q.1, hx]
      show EntT k T F (if e.1 = k.kf x then (e.1, v) else e) (if p.1 = x then (p.1, y) else p)
      rw [if_pos h1, if_pos hx]
      exact ⟨q.1, r⟩
    · have h1 : ¬ e.1 = k.kf x := fun z => hx (k.inj _ _ (q.1.symm.trans z))
      show EntT k T F (if e.1 = k.kf x then (e.1, v) else e) (if p.1 = x then (p.1, y) else p)
      rw [if_neg h1, if_neg hx]
      exact q
theorem reT_app {es es' : List (List Key × V)} {kvs kvs' : List (κ × α)} (h : ReT k T F es kvs) (h' : ReT k T F es' kvs') : ReT k T F (es ++ es') (kvs ++ kvs') := by
  induction h with
  | nil => exact h'
  | cons r _ ih => exact .cons r ih
theorem reT_put {es : List (List Key × V)} {kvs : List (κ × α)} (h : ReT k T F es kvs) {x : κ} {v : V} {y : α} (r : T.rep F v y) : ReT k T F (putK es (k.kf x) v) (dput kvs x y) := by
  unfold putK dput
  rw [reT_any h x]
  split
  · exact reT_map h r
  · exact reT_app h (.cons ⟨rfl, r⟩ .nil)
end
theorem putT_len {kvs : List (List Key × V)} {x : List Key} {v : V} : (putK kvs x v).length ≤ kvs.length + 1 := by
  unfold putK
  split
  · rw [List.length_map]; exact Nat.le_succ _
  · rw [List.length_append]; exact Nat.le_refl _
end
section
variable {X : Cx} {fl : Hp} {B : Hb X.K} {Y : Ec X.K} {ρ : List (Slot X.K)} {cs : List (Cell X.K)} {A R κ α β γ δ μ ν : Type} {pos : Pos} {rest : List Stmt} {D : Ends} {e : Expr}
theorem PK.ownDt {TK : Ty X.K κ} {k : KTt TK} {T : Ty X.K α} {kvs : List (κ × α)} {l : Addr} {P : Prop} (j : Nat) (h : PK X e ρ cs tR l P) (hc : cs[j]? = Option.some ⟨l, cDt k T kvs⟩) : PV X e ρ cs (rDt k T kvs) P := fun F σ H ok p Q q => h F σ H ok p Q fun v F' H' g h1 => by
  obtain ⟨o, ho, es, e, r, z⟩ := (ok.grow g).cell _ (List.mem_of_getElem? hc)
  subst e
  exact q v F' H' g ⟨l, es, h1, ho, r, z⟩
/-- x = {} -/
def NDt (X : Cx) (e : Expr) : Prop := ∀ σ H (Q : VK), (∀ a, H a = none → Q (.ref a) (upd H a (.dT []))) → WE X e σ H Q
theorem nd_newT : NDt X (.Dict [] [] pos) := fun σ H Q k => we pe_dnewT fun a ha => k a ha
theorem newDt_mv {TK : Ty X.K κ} (k : KTt TK) (T : Ty X.K α) {F H : Hp} {σ : L2.St} {a : Addr} (ok : Okc ρ cs F σ H) (ha : H a = none) : Mv cs F H (cs ++ [⟨a, cDt k T []⟩]) F (upd H a (.dT [])) := by
  have g := grow_upd (o := .dT []) (Grow.refl ok.same) ha
  have m := ok.grow g.1
  refine ⟨m.ff, m.fh, m.fr, m.kp, fun c hc => ?_, ?_, fun c hc => ?_, m.st⟩
  · rcases List.mem_append.mp hc with hc | hc
    · exact m.cell c hc
    · obtain rfl := List.mem_singleton.mp hc
      exact ⟨g.2, _, upd_same, [], rfl, .nil, Nat.zero_le _⟩
  · rw [List.map_append]
    refine List.nodup_append.mpr ⟨m.nd, by simp, fun x hx y hy => ?_⟩
    obtain ⟨c, hc, rfl⟩ := List.mem_map.mp hx
    have : y = a := by simpa using hy
    rw [this]
    intro e
    obtain ⟨_, o, e1, _⟩ := ok.cell c hc
    rw [e, ha] at e1; cases e1
  · rcases List.mem_append.mp hc with hc | hc
    · exact m.nw c hc
    · obtain rfl := List.mem_singleton.mp hc
      exact .inr ha
theorem sk_setDt {TK : Ty X.K κ} (kt : KTt TK) (T : Ty X.K α) {i : Nat} {nm : Str} {pos' : Pos} {φ : Addr → Prop} (hN : X.N.Nodup) (he : NDt X e) (k : ∀ a, SK X B Y fl rest (ρ.set i (.val tR a)) (cs ++ [⟨a, cDt kt T []⟩]) D (φ a)) (hi : X.N[i]? = some nm := by rfl)
    (hx : Loc X.env.scope nm := by first | exact Or.inl rfl | exact Or.inr rfl) (hs : swapsWith e (some (.Name nm pos')) pos.line X.env = pure false := by rfl) (hf : X.fn nm = true ∨ X.env.scope.names.lookup nm = some .local := by first | exact .inl rfl | exact .inr rfl) :
    SK X B Y fl (.Assign [.Name nm pos'] e pos :: rest) ρ cs D (∀ a, φ a) := fun F σ H ok p W tk hx' => by
  refine wb (pss_cons (ps_set hN hi hx pe_w hs hf) pss_w) ?_
  refine he σ H _ fun a ha => ?_
  exact k a F _ _ ((ok.to (newDt_mv kt T ok.c ha)).set (T := tR) i rfl) (p a) W tk hx'
/-- d[i] = e, d an owned dict -/
theorem sk_dputT [DecidableEq κ] {TK : Ty X.K κ} {kt : KTt TK} {T : Ty X.K α} {x : κ} {d i : Expr} {p1 : Pos} {l : Addr} {vl : μ → α} {cs' : μ → List (Cell X.K)} {M : (μ → Prop) → Prop} {kw : μ → List (κ × α)} {P3 P4 : μ → Prop} {φ : μ → List (κ × α) → Prop} (j : Nat) (hu : X.A.units + 1 < cLine) (he : EK X Y e ρ cs T vl cs' M) (hd : ∀ y, PK X d ρ (cs' y) tR l (P3 y)) (hi : ∀ y, PK X i ρ (cs' y) TK x (P4 y)) (hc : ∀ y, (cs' y)[j]? = some ⟨l, cDt kt T (kw y)⟩)
    (k : ∀ y z, SK X B Y fl rest ρ ((cs' y).set j ⟨l, cDt kt T z⟩) D (φ y z)) (hs : swapsWith e (some (.Subscript d i p1)) pos.line X.env = pure false := by rfl) :
    SK X B Y fl (.Assign [.Subscript d i p1] e pos :: rest) ρ cs D (M fun y => P3 y ∧ P4 y ∧ (kw y).length < sizeLine ∧ ∀ z, z = dput (kw y) x (vl y) → φ y z) := fun F σ H ok p W tk hx' => by
  refine wb (pss_cons (ps_dput hu pe_w pe_w pe_w hs) pss_w) ?_
  refine he F σ H ok.c (xh_of ok tk hx') _ p _ fun y v F1 H1 m r q => ?_
  have ok1 := ok.to m
  refine hd y F1 σ H1 ok1.c.w q.1 _ fun w F2 H2 g2 r2 => ?_
  have ok2 := ok1.to (ok1.c.grow g2)
  refine hi y F2 σ H2 ok2.c.w q.2.1 _ fun u F3 H3 g3 r3 => ?_
  have ok3 := ok2.to (ok2.c.grow g3)
  obtain ⟨b, eb, hb⟩ := kt.val _ _ _ r3
  subst eb
  obtain ⟨_, ob, hob, es, e1, re, z⟩ := ok3.c.cell _ (List.mem_of_getElem? (hc y))
  subst e1
  have hl : es.length < sizeLine := by rw [re.length]; exact q.2.2.1
  refine ⟨l, _, r2, .inr ⟨es, kt.kf x, b, hob, rfl, ok3.c.same _ _ hb, hl, rfl⟩, ?_⟩
  exact k y _ F3 σ _ (ok3.to (mv_upd (k := cDt kt T (dput (kw y) x (vl y))) ok3.c (hc y) ⟨_, rfl, reT_put re (T.mono (g2.ff.trans g3.ff) r), Nat.le_trans putT_len hl⟩)) (q.2.2.2 _ rfl) W tk hx'
/-! ### a new owned dict, or a refusal -/
def DE (X : Cx) (Y : Ec X.K) (e : Expr) (ρ : List (Slot X.K)) (cs : List (Cell X.K)) {μ κ α : Type} {TK : Ty X.K κ} (kt : KTt TK) (T : Ty X.K α) (vl : μ → List (κ × α)) (cs' : μ → List (Cell X.K)) (M : (μ → Prop) → Prop) : Prop :=
  ∀ F σ H, Okc ρ cs F σ H → Xh X Y cs F σ H → ∀ φ : μ → Prop, M φ → ∀ Q : VK, (∀ y a es F' H', Mv cs F H (cs' y) F' H' → H a = none → F' a = none → H' a = some (.dT es) → (∀ c ∈ cs' y, c.a ≠ a) → ReT kt T F' es (vl y) → es.length ≤ sizeLine → φ y → Q (.ref a) H') → WE X e σ H Q
theorem DE.ek {TK : Ty X.K κ} {kt : KTt TK} {T : Ty X.K α} {vl : μ → List (κ × α)} {cs' : μ → List (Cell X.K)} {M : (μ → Prop) → Prop} (h : DE X Y e ρ cs kt T vl cs' M) : EK X Y e ρ cs (tDt kt T) vl cs' M := fun F σ H ok xh φ p Q k =>
  h F σ H ok xh φ p Q fun y a es F' H' m hH hF ho hn r z q => k y _ _ _ (frz_mv m hH hF ho hn) ⟨a, es, rfl, upd_same, r.mono (same_upd hF), z⟩ q
theorem newDt_mv2 {TK : Ty X.K κ} {kt : KTt TK} {T : Ty X.K α} {xs : List (κ × α)} {cs cs' : List (Cell X.K)} {F H F' H' : Hp} {a : Addr} {es : List (List Key × V)} (m : Mv cs F H cs' F' H') (hH : H a = none) (hF : F' a = none) (ho : H' a = some (.dT es)) (hn : ∀ c ∈ cs', c.a ≠ a) (r : ReT kt T F' es xs) (z : es.length ≤ sizeLine) :
    Mv cs F H (cs' ++ [⟨a, cDt kt T xs⟩]) F' H' where
  ff := m.ff
  fh := m.fh
  fr := m.fr
  kp := m.kp
  cell := fun c hc => by
    rcases List.mem_append.mp hc with hc | hc
    · exact m.cell c hc
    · obtain rfl := List.mem_singleton.mp hc
      exact ⟨hF, _, ho, es, rfl, r, z⟩
  nd := by
    rw [List.map_append]
    refine List.nodup_append.mpr ⟨m.nd, by simp, fun x hx y hy => ?_⟩
    obtain ⟨c, hc, rfl⟩ := List.mem_map.mp hx
    have : y = a := by simpa using hy
    rw [this]; exact hn c hc
  nw := fun c hc => by
    rcases List.mem_append.mp hc with hc | hc
    · exact m.nw c hc
    · obtain rfl := List.mem_singleton.mp hc
      exact .inr hH
  st := m.st
def Con.nd {K : PySem.W.Frag} {A κ δ : Type} {TK : Ty K κ} (kt : KTt TK) (xa : XA) (ins : A → List (Slot K)) (T0 : Ty K δ) (pre : A → Prop) (g : A → List (κ × δ) ⊕ Rf) : Con K A (Addr × List (κ × δ)) Addr where
  ins := ins
  cin := fun _ => []
  wp := fun a φ ε => pre a ∧ (∀ c, g a = .inl c → ∀ l, φ (l, c)) ∧ ∀ e, g a = .inr e → ε (exn xa e)
  T := tR
  rv := fun r => r.1
  cout := fun _ r => [⟨r.1, cDt kt T0 r.2⟩]
  mono := fun _ _ _ _ _ h h' w => ⟨w.1, fun c e l => h (l, c) (w.2.1 c e l), fun e q => h' _ (w.2.2 e q)⟩
/-! ### comparisons, isinstance -/
end
end MD
namespace MD
open PySem PySem.Spec PyProof.Rows L2
theorem maxI_ub {d : Int} {xs : List Int} (h : xs ≠ []) : maxI d xs ∈ xs ∧ ∀ x ∈ xs, x ≤ maxI d xs := by
  cases xs with
  | nil => exact absurd rfl h
  | cons x xs =>
    show xs.foldl max x ∈ x :: xs ∧ ∀ y ∈ x :: xs, y ≤ xs.foldl max x
    clear h
    induction xs generalizing x with
    | nil => exact ⟨List.mem_cons_self, fun y hy => by rw [List.mem_singleton.mp hy]; exact Int.le_refl _⟩
    | cons z xs ih =>
      obtain ⟨h1, h2⟩ := ih (max x z)
      rw [List.foldl_cons]
      refine ⟨?_, fun y hy => ?_⟩
      · rcases List.mem_cons.mp h1 with e | e
        · rw [e]
          rcases Int.le_total x z with q | q
          · rw [Int.max_eq_right q]; exact List.mem_cons_of_mem _ List.mem_cons_self
          · rw [Int.max_eq_left q]; exact List.mem_cons_self
        · exact List.mem_cons_of_mem _ (List.mem_cons_of_mem _ e)
      · have h0 := h2 (max x z) List.mem_cons_self
        rcases List.mem_cons.mp hy with e | hy
        · rw [e]; exact Int.le_trans (Int.le_max_left _ _) h0
        · rcases List.mem_cons.mp hy with e | hy
          · rw [e]; exact Int.le_trans (Int.le_max_right _ _) h0
          · exact h2 y (List.mem_cons_of_mem _ hy)
/-- max(xs) of ints -/
theorem u_max {K : PySem.W.Frag} {xs : List Int} : U1 (rMax K) (rK (tI (K := K)) xs) (xs ≠ []) (sv (tI (K := K)) (maxI 0 xs)) := fun F H v s ⟨a, vs, e, h, r, z⟩ c Q k => by
  subst e
  obtain rfl := rl_ints r
  refine ⟨a, xs, rfl, h, List.length_pos_iff.mpr c, fun m hm hu => ?_⟩
  obtain ⟨h1, h2⟩ := maxI_ub (d := 0) c
  have : m = maxI 0 xs := Int.le_antisymm (h2 m hm) (hu _ h1)
  exact k _ F H (Grow.refl s) (by rw [this]; rfl)
section
variable {X : Cx} {fl : Hp} {B : Hb X.K} {Y : Ec X.K} {ρ : List (Slot X.K)} {cs : List (Cell X.K)} {A R κ α β γ δ μ ν : Type} {pos : Pos} {rest : List Stmt} {D : Ends} {e : Expr}
/-! ### reading dicts with tuple keys -/
section
variable [DecidableEq κ] {TK : Ty X.K κ} {kt : KTt TK} {T : Ty X.K α} {kvs : List (κ × α)} {x : κ} {P1 P2 : Prop} {d i : Expr}
theorem pk_dgetT [Inhabited α] (hu : X.A.units + 1 < cLine) (hd : PV X d ρ cs (rDt kt T kvs) P1) (hi : PK X i ρ cs TK x P2) (hs : NoSl i := by exact fun _ _ => rfl) : PK X (.Subscript d i pos) ρ cs T ((dget kvs x).getD default) (P1 ∧ P2 ∧ (dget kvs x).isSome = true) := fun F σ H ok p Q k => by
  refine we (pe_dget hu pe_w pe_w hs) ?_
  refine hd F σ H ok p.1 _ fun v F1 H1 g1 ⟨a, es, e, ha, r, z⟩ => ?_
  refine hi F1 σ H1 (ok.grow g1) p.2.1 _ fun w F2 H2 g2 r2 => ?_
  obtain ⟨b, eb, hb⟩ := kt.val _ _ _ r2
  subst eb
  rcases reT_val (r.mono g2.ff) x with ⟨_, h2⟩ | ⟨u, y, h1, h2, q⟩
  · have := p.2.2; rw [h2] at this; cases this
  · exact ⟨a, u, e, .inr ⟨es, kt.kf x, b, .inl (g2.hh _ _ ha), rfl, g2.fh _ _ hb, h1.symm⟩, k u F2 H2 (g1.trans g2) (by rw [h2]; exact q)⟩
theorem reT_some {F : Hp} {es : List (List Key × V)} (r : ReT kt T F es kvs) : (valV es (kt.kf x)).isSome = (dget kvs x).isSome := by
  rcases reT_val r x with ⟨h1, h2⟩ | ⟨u, y, h1, h2, q⟩ <;> rw [h1, h2] <;> rfl
theorem pt_dninT (hu : X.A.units + 1 < cLine) (hi : PK X i ρ cs TK x P2) (hd : PV X d ρ cs (rDt kt T kvs) P1) (hm : behindInMarks .NotIn d = false := by rfl) : PTK X (.Compare i [.NotIn] [d] pos) ρ cs (!(dget kvs x).isSome) (P2 ∧ P1) := fun F σ H ok p Q k => by
  refine wt (pt_cmp (pc_dnotin hu pe_w pe_w) hm) ?_
  refine hi F σ H ok p.1 _ fun w F1 H1 g1 r1 => ?_
  refine hd F1 σ H1 (ok.grow g1) p.2 _ fun v F2 H2 g2 ⟨a, es, e, ha, r, z⟩ => ?_
  obtain ⟨b, eb, hb⟩ := kt.val _ _ _ r1
  subst eb
  exact ⟨a, _, e, .inr ⟨es, kt.kf x, b, .inl ha, rfl, g2.hh _ _ (g1.fh _ _ hb), rfl⟩, _, rfl, by rw [reT_some r]; exact k F2 H2 (g1.trans g2)⟩
/-! ### tests -/
end
end
end MD
namespace MD
open PySem PySem.Spec PyProof.Rows L2
section
variable {X : Cx} {fl : Hp} {B : Hb X.K} {Y : Ec X.K} {ρ : List (Slot X.K)} {cs : List (Cell X.K)} {A R κ α β γ δ μ ν : Type} {pos : Pos} {rest : List Stmt} {D : Ends} {e : Expr}
/-- what a value left owned may be left -/
theorem EK.drop {T : Ty X.K α} {vl : μ → α} {cs' : μ → List (Cell X.K)} {M : (μ → Prop) → Prop} (h : EK X Y e ρ cs T vl cs' M) : EK X Y e ρ cs T vl (fun _ => []) M := fun F σ H ok xh φ p Q k => h F σ H ok xh φ p Q fun y v F' H' m r q => k y v F' H' m.none r q
theorem sk_retPD {ins : α → List (Slot X.K)} {T : Ty X.K γ} {pre : α → Prop} {post : α → γ → Prop} {a : α} {ψ : γ → Prop} {n b' c' : L2.St → Hp → Prop} {vl : μ → γ} {cs' : μ → List (Cell X.K)} {M : (μ → Prop) → Prop} {r : List Stmt} (he : EK X Y e ρ cs T vl cs' M) :
    SK X B Y fl (.Return (some e) pos :: r) ρ cs { retD (Con.fp ins T pre post) a B ψ with nx := n, bk := b', ct := c' } (M fun y => ψ (vl y)) := sk_retE (C := Con.fp ins T pre post) vl he.drop (fun _ => rfl) fun y => rfl
/-! ### dict(d), dict(rows), sorted(d) -/
/-! ### a walk over an owned dict that the body leaves alone -/
/-! ### range(a, b, -1) -/
end
end MD
namespace MD
open PySem PySem.Spec PyProof.Rows L2
open LamX (TabB CodeO lamEnv lamCx)
/-! ### a def's table of code objects, as a cell -/
def TabOf (F : Hp) (ps : Array Value) (q : Str) : Prop := TriplesOk ps.toList ∧ ∀ (pos : Pos) (cv : Value), codeAmong pos ps.toList = some cv → ∃ c, cv = .ref c ∧ F c = some (CodeO c q)
theorem TabOf.mono {F F' : Hp} {ps : Array Value} {q : Str} (e : Same F F') (t : TabOf F ps q) : TabOf F' ps q := ⟨t.1, fun pos cv hc => let ⟨c, e1, e2⟩ := t.2 pos cv hc; ⟨c, e1, e _ _ e2⟩⟩
/-! ### a lambda of one parameter -/
end MD
namespace MD
open PySem PySem.Spec PyProof.Rows L2
open LamX (TabB CodeO lamEnv lamCx)
/-! ### min(xs, key=lambda x: ..) of whole numbers -/
end MD
namespace MD
open PySem PySem.Spec PyProof.Rows L2
open LamX (TabB CodeO lamEnv lamCx)
/-! ### an owned list lent as a frozen one to what may raise -/
/-! ### a def whose code object is known -/
end MD
namespace MD
open PySem PySem.Spec PyProof.Rows L2
open LamX (TabB CodeO lamEnv lamCx)
/-! ### the end of a law whose run makes lambdas -/
end MD
namespace MD
open PySem PySem.Spec PyProof.Rows L2
/-! ### == and != of a value with effects and a view -/
end MD
namespace MD
open PySem PySem.Spec PyProof.Rows L2
/-! ### a new list, or None -/
section
variable {X : Cx} {fl : Hp} {B : Hb X.K} {Y : Ec X.K} {ρ : List (Slot X.K)} {cs : List (Cell X.K)} {A R α β γ δ μ ν : Type} {pos : Pos} {rest : List Stmt} {D : Ends} {e : Expr}
def NOE (X : Cx) (Y : Ec X.K) (e : Expr) (ρ : List (Slot X.K)) (cs : List (Cell X.K)) {μ α : Type} (T : Ty X.K α) (vl : μ → Option (List α)) (cs' : μ → List (Cell X.K)) (M : (μ → Prop) → Prop) : Prop :=
  ∀ F σ H, Okc ρ cs F σ H → Xh X Y cs F σ H → ∀ φ : μ → Prop, M φ → ∀ Q : VK, (∀ y F' H', Mv cs F H (cs' y) F' H' → vl y = none → φ y → Q .non H') →
    (∀ y xs a vs F' H', Mv cs F H (cs' y) F' H' → H a = none → F' a = none → H' a = some (.lst vs) → (∀ c ∈ cs' y, c.a ≠ a) → Rl T F' vs xs → vs.length ≤ sizeLine → vl y = some xs → φ y → Q (.ref a) H') → WE X e σ H Q
theorem NOE.ek {T : Ty X.K α} {vl : μ → Option (List α)} {cs' : μ → List (Cell X.K)} {M : (μ → Prop) → Prop} (h : NOE X Y e ρ cs T vl cs' M) : EK X Y e ρ cs (tO (tL T)) vl cs' M := fun F σ H ok xh φ p Q k =>
  h F σ H ok xh φ p Q (fun y F' H' m en q => k y .non F' H' m (by rw [en]; rfl) q) fun y xs a vs F' H' m hH hF ho hn r z es q => k y _ _ _ (frz_mv m hH hF ho hn) (by rw [es]; exact ⟨a, vs, rfl, upd_same, r.mono (same_upd hF), z⟩) q
def Con.no {K : PySem.W.Frag} {A δ : Type} (xa : XA) (ins : A → List (Slot K)) (T0 : Ty K δ) (pre : A → Prop) (g : A → Option (List δ) ⊕ Rf) : Con K A (Option (Addr × List δ)) (Option Addr) where
  ins := ins
  cin := fun _ => []
  wp := fun a φ ε => pre a ∧ (g a = .inl none → φ none) ∧ (∀ c, g a = .inl (some c) → ∀ l, φ (some (l, c))) ∧ ∀ e, g a = .inr e → ε (exn xa e)
  T := tO tR
  rv := fun r => r.map (·.1)
  cout := fun _ r => match r with
    | none => []
    | some r => [⟨r.1, cL T0 r.2⟩]
  mono := fun _ _ _ _ _ h h' w => ⟨w.1, fun e => h none (w.2.1 e), fun c e l => h (some (l, c)) (w.2.2.1 c e l), fun e q => h' _ (w.2.2.2 e q)⟩
end
/-! ### as a value: x is None -/
/-! ### l.count(x), texts -/
end MD
namespace MD
open PySem PySem.Spec PyProof.Rows L2
/-! ### zip of three lists, or of three tuples -/
def SqK (k : Bool) (K : PySem.W.Frag) (H : Hp) (a : Addr) (xs : List V) : Prop := if k = true then SqL K H a xs else SqT K H a xs
def ItK (k : Bool) (h : Heap) (it a : Addr) (i : Nat) : Prop := if k = true then h.IsListIter it a i else h.IsTupleIter it a i
def CoK (k : Bool) (h : Heap) (a : Addr) (its : Array Value) : Prop := if k = true then h.IsList a its else h.IsTuple a its
section
variable {prog : Program} {w : World}
theorem drawsK (k : Bool) {A : Around} (hh : A.handled = none) (it l : Addr) (hne : l ≠ it) (items : Array Value) :
    Draws prog w A it [it, l] items.size (fun i v => items[i]? = some v) (fun i h => ItK k h it l i ∧ CoK k h l items) := by
  cases k with
  | true => exact Draws.list hh it l hne items
  | false => exact Draws.tuple hh it l hne items
theorem ItK.obj {k : Bool} {h : Heap} {it a : Addr} {i : Nat} (st : ItK k h it a i) : ∃ o, h.get? it = some o ∧ ∀ v, o.data ≠ .cell v := by
  cases k with
  | true =>
    obtain ⟨o, e, _, d⟩ := (st : h.IsListIter it a i)
    exact ⟨o, e, fun v q => by rw [d] at q; cases q⟩
  | false =>
    obtain ⟨o, e, _, d⟩ := (st : h.IsTupleIter it a i)
    exact ⟨o, e, fun v q => by rw [d] at q; cases q⟩
theorem ItK.at {k : Bool} {h h' : Heap} {it a : Addr} {i : Nat} (st : ItK k h it a i) (f : ∀ o, h.get? it = some o → h'.get? it = some o) : ItK k h' it a i := by
  cases k with
  | true => exact Heap.IsListIter.at (st : h.IsListIter it a i) f
  | false => exact Heap.IsTupleIter.at (st : h.IsTupleIter it a i) f
theorem CoK.lt {k : Bool} {h : Heap} {a : Addr} {its : Array Value} (st : CoK k h a its) : a < h.objs.size := by
  cases k with
  | true =>
    obtain ⟨o, e, _⟩ := (st : h.IsList a its)
    exact Heap.lt_size e
  | false =>
    obtain ⟨o, e, _⟩ := (st : h.IsTuple a its)
    exact Heap.lt_size e
theorem beginsK (k : Bool) (a : Addr) (items : Array Value) : ∃ o, Begins (.ref a) o (fun h => CoK k h a items) ∧ ∀ (h : Heap) (it : Addr), h.get? it = some o → ItK k h it a 0 := by
  cases k with
  | true => exact ⟨_, begins_list a items, fun h it e => ⟨_, e, rfl, rfl⟩⟩
  | false => exact ⟨_, begins_tuple a items, fun h it e => ⟨_, e, rfl, rfl⟩⟩
end
section
variable {X : Cx} {pins : List (Addr × Obj)} {σ : L2.St} {H : Hp} {s : Shared}
theorem inv_sqK {k : Bool} {a : Addr} {xs : List V} (I : Inv X pins σ H s) (h : SqK k X.K H a xs) : ∃ its : List Value, Vals xs its ∧ CoK k s.heap a its.toArray ∧ xs.length ≤ sizeLine := by
  cases k with
  | true =>
    obtain ⟨its, r, p, z⟩ := I.list (h : SqL X.K H a xs)
    exact ⟨its, r, p.isList, z⟩
  | false =>
    obtain ⟨its, r, p, z⟩ := I.tuple (h : SqT X.K H a xs)
    exact ⟨its, r, p, z⟩
theorem inv_injK {k : Bool} {a : Addr} {xs ys : List V} (I : Inv X pins σ H s) (h : SqK k X.K H a xs) (h' : SqK k X.K H a ys) : xs = ys := by
  cases k with
  | true => exact I.list_inj h h'
  | false => exact I.tuple_inj h h'
end
theorem zip_get3 {α β γ : Type} {xs : List α} {ys : List β} {zs : List γ} {i : Nat} {z : α × β × γ} (h : (xs.zip (ys.zip zs))[i]? = some z) : xs[i]? = some z.1 ∧ ys[i]? = some z.2.1 ∧ zs[i]? = some z.2.2 := by
  obtain ⟨h1, h2⟩ := zip_get h
  obtain ⟨h3, h4⟩ := zip_get h2
  exact ⟨h1, h3, h4⟩
section
variable {K : PySem.W.Frag} {α β γ : Type}
theorem grow_tup3 {T1 : Ty K α} {T2 : Ty K β} {T3 : Ty K γ} {F H : Hp} {p : Addr} {v w u : V} {x : α} {y : β} {z : γ} (h : Same F H) (hp : H p = none) (r1 : T1.rep F v x) (r2 : T2.rep F w y) (r3 : T3.rep F u z) :
    Grow F H (upd F p (.tup [v, w, u])) (upd H p (.tup [v, w, u])) ∧ (tT (tsC T1 (tsC T2 (ts1 T3)))).rep (upd F p (.tup [v, w, u])) (.ref p) (x, y, z) :=
  let g := grow_new h hp (.tup [v, w, u])
  ⟨g, p, _, rfl, upd_same, v, _, rfl, T1.mono g.ff r1, w, _, rfl, T2.mono g.ff r2, u, rfl, T3.mono g.ff r3⟩
end
section
variable {X : Cx} {ρ : List (Slot X.K)} {cs : List (Cell X.K)} {α β γ : Type} {pos : Pos}
theorem sq_L {T : Ty X.K α} : ∀ F v x, (tL T).rep F v x → ∃ a vs, v = .ref a ∧ (∀ H, Same F H → SqK true X.K H a vs) ∧ Rl T F vs x ∧ vs.length ≤ sizeLine := fun F v x ⟨a, vs, e, hq, r, z⟩ => ⟨a, vs, e, fun H s => SqL.of (s _ _ hq), r, z⟩
theorem sq_U {T : Ty X.K α} : ∀ F v x, (tU T).rep F v x → ∃ a vs, v = .ref a ∧ (∀ H, Same F H → SqK false X.K H a vs) ∧ Rl T F vs x ∧ vs.length ≤ sizeLine := fun F v x ⟨a, vs, e, hq, r, z⟩ => ⟨a, vs, e, fun H s => .inl (same_rd s hq), r, z⟩
end
end MD
/-! machines by their tables: runs, words, what parts two states; how long a least such word may be -/
namespace KM
open PySem MD KP
abbrev Tab := List (List Int)
def stp (tab : Tab) (s : Int) (j : Nat) : Int := pyIx (pyIx tab s) (j : Int)
def runT (tab : Tab) (s : Int) (w : List Nat) : Int := w.foldl (stp tab) s
/-- a word of letters' places -/
def Wd (m : Nat) (w : List Nat) : Prop := ∀ j ∈ w, j < m
def InR (tab : Tab) (s : Int) : Prop := 0 ≤ s ∧ s < (tab.length : Int)
/-- every row has m goals, all states -/
structure TOk (m : Nat) (tab : Tab) : Prop where
  len : ∀ r ∈ tab, r.length = m
  goal : ∀ r ∈ tab, ∀ g ∈ r, InR tab g
theorem stp_in {m : Nat} {tab : Tab} (h : TOk m tab) {s : Int} (hs : InR tab s) {j : Nat} (hj : j < m) : InR tab (stp tab s j) := by
  have hr : pyIx tab s ∈ tab := pyIx_mem hs.1 hs.2
  refine h.goal _ hr _ (pyIx_mem (by omega) ?_)
  rw [h.len _ hr]
  omega
theorem run_in {m : Nat} {tab : Tab} (h : TOk m tab) : ∀ {w : List Nat} {s : Int}, InR tab s → Wd m w → InR tab (runT tab s w)
  | [], _, hs, _ => hs
  | j :: w, s, hs, hw => run_in h (w := w) (stp_in h hs (hw j List.mem_cons_self)) fun k hk => hw k (List.mem_cons_of_mem _ hk)
theorem run_app (tab : Tab) (s : Int) (u w : List Nat) : runT tab s (u ++ w) = runT tab (runT tab s u) w := List.foldl_append
/-- whether a word parts two states -/
def parts (tab : Tab) (good : List Int) (p : Int × Int) (w : List Nat) : Prop := ¬ (runT tab p.1 w ∈ good ↔ runT tab p.2 w ∈ good)
def stp2 (tab : Tab) (p : Int × Int) (j : Nat) : Int × Int := (stp tab p.1 j, stp tab p.2 j)
def run2 (tab : Tab) (p : Int × Int) (w : List Nat) : Int × Int := (runT tab p.1 w, runT tab p.2 w)
theorem run2_app (tab : Tab) (p : Int × Int) (u : List Nat) (j : Nat) : run2 tab p (u ++ [j]) = stp2 tab (run2 tab p u) j := by
  unfold run2
  rw [run_app, run_app]
  rfl
theorem parts_cons {tab : Tab} {good : List Int} {p : Int × Int} {j : Nat} {w : List Nat} : parts tab good p (j :: w) ↔ parts tab good (stp2 tab p j) w := Iff.rfl
theorem parts_app {tab : Tab} {good : List Int} {p : Int × Int} {u w : List Nat} : parts tab good p (u ++ w) ↔ parts tab good (run2 tab p u) w := by
  unfold parts run2
  rw [run_app, run_app]
/-- alike by all words of up to k letters -/
def Ek (m : Nat) (tab : Tab) (good : List Int) (k : Nat) (s t : Int) : Prop := ∀ w, Wd m w → w.length ≤ k → ¬ parts tab good (s, t) w
section
variable {m : Nat} {tab : Tab} {good : List Int}
theorem Ek.refl (k : Nat) (s : Int) : Ek m tab good k s s := fun w _ _ h => h Iff.rfl
theorem parts_symm {s t : Int} {w : List Nat} (h : parts tab good (s, t) w) : parts tab good (t, s) w := fun q => h q.symm
theorem Ek.symm {k : Nat} {s t : Int} (h : Ek m tab good k s t) : Ek m tab good k t s := fun w hw hl q => h w hw hl (parts_symm q)
theorem Ek.trans {k : Nat} {s t u : Int} (h : Ek m tab good k s t) (h' : Ek m tab good k t u) : Ek m tab good k s u := fun w hw hl q => by
  have a := Classical.not_not.mp (h w hw hl)
  have b := Classical.not_not.mp (h' w hw hl)
  exact q (a.trans b)
theorem Ek.le {k l : Nat} {s t : Int} (h : Ek m tab good l s t) (hkl : k ≤ l) : Ek m tab good k s t := fun w hw hl => h w hw (Nat.le_trans hl hkl)
theorem Ek.succ {k : Nat} {s t : Int} : Ek m tab good (k + 1) s t ↔ Ek m tab good 0 s t ∧ ∀ j, j < m → Ek m tab good k (stp tab s j) (stp tab t j) := by
  constructor
  · refine fun h => ⟨h.le (Nat.zero_le _), fun j hj w hw hl q => h (j :: w) (fun x hx => ?_) (Nat.succ_le_succ hl) ((parts_cons (p := (s, t))).mpr q)⟩
    rcases List.mem_cons.mp hx with e | e
    · rw [e]; exact hj
    · exact hw x e
  · rintro ⟨h0, h1⟩ w hw hl
    cases w with
    | nil => exact h0 [] hw (Nat.le_refl 0)
    | cons j w => exact fun q => h1 j (hw j List.mem_cons_self) w (fun x hx => hw x (List.mem_cons_of_mem _ hx)) (Nat.le_of_succ_le_succ hl) ((parts_cons (p := (s, t))).mp q)
/-- where one more letter tells nothing more, no more letters do -/
theorem Ek.stays (h : TOk m tab) {k : Nat} (hk : ∀ s t, InR tab s → InR tab t → Ek m tab good k s t → Ek m tab good (k + 1) s t) : ∀ d s t, InR tab s → InR tab t → Ek m tab good k s t → Ek m tab good (k + d) s t
  | 0, _, _, _, _, e => e
  | d + 1, s, t, hs, ht, e => by
    obtain ⟨e0, e1⟩ := Ek.succ.mp (hk s t hs ht e)
    exact Ek.succ.mpr ⟨e0, fun j hj => Ek.stays h hk d _ _ (stp_in h hs hj) (stp_in h ht hj) (e1 j hj)⟩
open Classical in
/-- the least ones of their classes -/
noncomputable def reps (m : Nat) (tab : Tab) (good : List Int) (k : Nat) : List Nat := (List.range tab.length).filter fun s => decide (∀ t : Nat, t < s → ¬ Ek m tab good k (t : Int) (s : Int))
theorem filter_lt {p q : Nat → Bool} : ∀ {l : List Nat} {y : Nat}, (∀ x, p x = true → q x = true) → y ∈ l → q y = true → p y = false → (l.filter p).length < (l.filter q).length
  | [], _, _, h, _, _ => by cases h
  | x :: l, y, hpq, h, hq, hp => by
    have le : ∀ l : List Nat, (l.filter p).length ≤ (l.filter q).length := fun l => by
      induction l with
      | nil => exact Nat.le_refl 0
      | cons x l ih =>
        rw [List.filter_cons, List.filter_cons]
        cases px : p x with
        | true =>
          rw [hpq x px]
          exact Nat.succ_le_succ ih
        | false =>
          cases q x
          · exact ih
          · exact Nat.le_succ_of_le ih
    rw [List.filter_cons, List.filter_cons]
    rcases List.mem_cons.mp h with e | h
    · subst e
      rw [hq, hp]
      exact Nat.lt_succ_of_le (le l)
    · have ih := filter_lt hpq h hq hp
      cases px : p x with
      | true =>
        rw [hpq x px]
        exact Nat.succ_lt_succ ih
      | false =>
        cases q x
        · exact ih
        · exact Nat.lt_succ_of_lt ih
theorem least_of {P : Nat → Prop} : ∀ {n : Nat}, P n → ∃ k, k ≤ n ∧ P k ∧ ∀ j, j < k → ¬ P j := by
  intro n
  induction n using Nat.strongRecOn with
  | _ n ih =>
    intro h
    by_cases q : ∃ j, j < n ∧ P j
    · obtain ⟨j, hj, pj⟩ := q
      obtain ⟨k, hk, pk, lk⟩ := ih j hj pj
      exact ⟨k, Nat.le_trans hk (Nat.le_of_lt hj), pk, lk⟩
    · exact ⟨n, Nat.le_refl n, h, fun j hj pj => q ⟨j, hj, pj⟩⟩
open Classical in
theorem reps_lt {k : Nat} {s t : Nat} (hs : s < tab.length) (ht : t < tab.length) (e : Ek m tab good k (s : Int) (t : Int)) (ne : ¬ Ek m tab good (k + 1) (s : Int) (t : Int)) : (reps m tab good k).length < (reps m tab good (k + 1)).length := by
  obtain ⟨r, hr, er, lr⟩ := least_of (P := fun r => Ek m tab good k (r : Int) (s : Int)) (n := s) (Ek.refl k _)
  obtain ⟨x, hx, e1, e2⟩ : ∃ x : Nat, x < tab.length ∧ Ek m tab good k (r : Int) (x : Int) ∧ ¬ Ek m tab good (k + 1) (r : Int) (x : Int) := by
    by_cases q : Ek m tab good (k + 1) (r : Int) (s : Int)
    · exact ⟨t, ht, er.trans e, fun q2 => ne (q.symm.trans q2)⟩
    · exact ⟨s, hs, er, q⟩
  obtain ⟨y, hy, ey, ly⟩ := least_of (P := fun y => Ek m tab good (k + 1) (y : Int) (x : Int)) (n := x) (Ek.refl _ _)
  have yr : r < y := by
    rcases Nat.lt_trichotomy r y with h | h | h
    · exact h
    · rw [h] at e2
      exact absurd ey e2
    · exact absurd ((ey.le (Nat.le_succ k)).trans (e1.symm.trans er)) (lr y h)
  refine filter_lt (y := y) (fun z hz => ?_) (List.mem_range.mpr (by omega)) ?_ ?_
  · have hz := of_decide_eq_true hz
    exact decide_eq_true fun t ht q => hz t ht (q.le (Nat.le_succ k))
  · exact decide_eq_true fun t ht q => ly t ht (q.trans ey)
  · exact decide_eq_false fun q => q r yr (e1.trans (ey.le (Nat.le_succ k)).symm)
theorem reps_le (k : Nat) : (reps m tab good k).length ≤ tab.length := Nat.le_trans (List.length_filter_le _ _) (by rw [List.length_range]; exact Nat.le_refl _)
open Classical in
theorem reps_pos (k : Nat) (h : 0 < tab.length) : 1 ≤ (reps m tab good k).length := by
  refine List.length_pos_of_mem (a := 0) (List.mem_filter.mpr ⟨List.mem_range.mpr h, decide_eq_true fun t ht => ?_⟩)
  omega
/-- what parts two states at all parts them by a word with fewer letters than there are states -/
theorem short (h : TOk m tab) {s t : Int} (hs : InR tab s) (ht : InR tab t) {w : List Nat} (hw : Wd m w) (hp : parts tab good (s, t) w) : ∃ v, Wd m v ∧ v.length < tab.length ∧ parts tab good (s, t) v := by
  obtain ⟨L, _, ⟨v, hv, hvl, hvp⟩, ll⟩ := least_of (P := fun L => ∃ v, Wd m v ∧ v.length = L ∧ parts tab good (s, t) v) (n := w.length) ⟨w, hw, rfl, hp⟩
  refine ⟨v, hv, ?_, hvp⟩
  have grow : ∀ k, k ≤ L → k + 1 ≤ (reps m tab good k).length := fun k => by
    induction k with
    | zero => exact fun _ => reps_pos 0 (by have := hs.1; have := hs.2; omega)
    | succ k ih =>
      intro hk
      have ih := ih (by omega)
      by_cases q : ∀ s t, InR tab s → InR tab t → Ek m tab good k s t → Ek m tab good (k + 1) s t
      · exfalso
        have e : Ek m tab good k s t := fun u hu hul hup => ll u.length (by omega) ⟨u, hu, rfl, hup⟩
        have := Ek.stays h q (L - k) s t hs ht e
        exact this v hv (by omega) hvp
      · obtain ⟨s', q⟩ := Classical.not_forall.mp q
        obtain ⟨t', q⟩ := Classical.not_forall.mp q
        obtain ⟨hs', q⟩ := Classical.not_imp.mp q
        obtain ⟨ht', q⟩ := Classical.not_imp.mp q
        obtain ⟨e1, e2⟩ := Classical.not_imp.mp q
        obtain ⟨a, rfl⟩ := Int.eq_ofNat_of_zero_le hs'.1
        obtain ⟨b, rfl⟩ := Int.eq_ofNat_of_zero_le ht'.1
        have := reps_lt (by have := hs'.2; omega) (by have := ht'.2; omega) e1 e2
        omega
  have := grow L (Nat.le_refl L)
  have := reps_le (m := m) (tab := tab) (good := good) L
  omega
end
/-! ### the order of words -/
def lexle : List Nat → List Nat → Prop
  | [], _ => True
  | _ :: _, [] => False
  | a :: v, b :: w => a < b ∨ (a = b ∧ lexle v w)
theorem lexle.refl : ∀ v, lexle v v
  | [] => trivial
  | _ :: v => .inr ⟨rfl, lexle.refl v⟩
theorem lexle.trans : ∀ {u v w : List Nat}, lexle u v → lexle v w → lexle u w
  | [], _, _, _, _ => trivial
  | _ :: _, [], _, h, _ => h.elim
  | _ :: _, _ :: _, [], _, h => h.elim
  | a :: u, b :: v, c :: w, h1, h2 => by
    rcases h1 with h1 | ⟨e1, h1⟩
    · rcases h2 with h2 | ⟨e2, h2⟩
      · exact .inl (Nat.lt_trans h1 h2)
      · exact .inl (e2 ▸ h1)
    · subst e1
      rcases h2 with h2 | ⟨e2, h2⟩
      · exact .inl h2
      · exact .inr ⟨e2, h1.trans h2⟩
theorem lexle.antisymm : ∀ {v w : List Nat}, v.length = w.length → lexle v w → lexle w v → v = w
  | [], [], _, _, _ => rfl
  | [], _ :: _, h, _, _ => by cases h
  | _ :: _, [], h, _, _ => by cases h
  | a :: v, b :: w, hl, h1, h2 => by
    rcases h1 with h1 | ⟨e1, h1⟩
    · rcases h2 with h2 | ⟨e2, h2⟩
      · omega
      · omega
    · subst e1
      rcases h2 with h2 | ⟨_, h2⟩
      · omega
      · rw [lexle.antisymm (Nat.succ.inj hl) h1 h2]
/-- one letter more at each: where the words differ, whatever letters -/
theorem lexle.snoc : ∀ {v w : List Nat} {x y : Nat}, v.length = w.length → lexle v w → (v = w → x ≤ y) → lexle (v ++ [x]) (w ++ [y])
  | [], [], x, y, _, _, h => by
    have := h rfl
    rcases Nat.lt_or_ge x y with q | q
    · exact .inl q
    · exact .inr ⟨by omega, trivial⟩
  | [], _ :: _, _, _, h, _, _ => by cases h
  | _ :: _, [], _, _, h, _, _ => by cases h
  | a :: v, b :: w, x, y, hl, h, hx => by
    rcases h with h | ⟨e, h⟩
    · exact .inl h
    · exact .inr ⟨e, lexle.snoc (Nat.succ.inj hl) h fun q => hx (by rw [e, q])⟩
def sle (v w : List Nat) : Prop := v.length < w.length ∨ (v.length = w.length ∧ lexle v w)
theorem sle.refl (v : List Nat) : sle v v := .inr ⟨rfl, lexle.refl v⟩
theorem sle.trans {u v w : List Nat} (h1 : sle u v) (h2 : sle v w) : sle u w := by
  rcases h1 with h1 | ⟨e1, h1⟩
  · rcases h2 with h2 | ⟨e2, h2⟩
    · exact .inl (Nat.lt_trans h1 h2)
    · exact .inl (by omega)
  · rcases h2 with h2 | ⟨e2, h2⟩
    · exact .inl (by omega)
    · exact .inr ⟨e1.trans e2, h1.trans h2⟩
theorem sle.antisymm {v w : List Nat} (h1 : sle v w) (h2 : sle w v) : v = w := by
  rcases h1 with h1 | ⟨e1, h1⟩
  · rcases h2 with h2 | ⟨e2, h2⟩ <;> omega
  · rcases h2 with h2 | ⟨e2, h2⟩
    · omega
    · exact h1.antisymm e1 h2
theorem sle.snoc {v w : List Nat} {x y : Nat} (h : sle v w) (hx : v = w → x ≤ y) : sle (v ++ [x]) (w ++ [y]) := by
  rcases h with h | ⟨e, h⟩
  · exact .inl (by rw [List.length_append, List.length_append]; simp only [List.length_singleton]; omega)
  · exact .inr ⟨by rw [List.length_append, List.length_append, e]; rfl, h.snoc e hx⟩
theorem sle.nil (v : List Nat) : sle [] v := by
  cases v with
  | nil => exact sle.refl []
  | cons a v => exact .inl (Nat.succ_pos _)
theorem sle.pre (u v : List Nat) : sle u (u ++ v) := by
  cases v with
  | nil => rw [List.append_nil]; exact sle.refl u
  | cons a v => exact .inl (by rw [List.length_append, List.length_cons]; omega)
/-! ### the first word that parts -/
def IsL (m : Nat) (tab : Tab) (good : List Int) (p : Int × Int) : Option (List Nat) → Prop
  | none => ∀ w, Wd m w → ¬ parts tab good p w
  | some w => Wd m w ∧ parts tab good p w ∧ ∀ v, Wd m v → parts tab good p v → sle w v
section
variable {m : Nat} {tab : Tab} {good : List Int} {p : Int × Int}
theorem IsL.uniq : ∀ {o o' : Option (List Nat)}, IsL m tab good p o → IsL m tab good p o' → o = o'
  | none, none, _, _ => rfl
  | none, some w, h, h' => absurd h'.2.1 (h w h'.1)
  | some w, none, h, h' => absurd h.2.1 (h' w h.1)
  | some w, some v, h, h' => by rw [(h.2.2 v h'.1 h'.2.1).antisymm (h'.2.2 w h.1 h.2.1)]
theorem Wd.snoc {w : List Nat} {j : Nat} (h : Wd m w) (hj : j < m) : Wd m (w ++ [j]) := fun x hx => by
  rcases List.mem_append.mp hx with q | q
  · exact h x q
  · rw [List.mem_singleton.mp q]; exact hj
/-! ### found breadth first -/
structure BF (m : Nat) (tab : Tab) (good : List Int) (p : Int × Int) (at_ jj : Nat) (ws : List (List Nat)) : Prop where
  wd : ∀ w ∈ ws, Wd m w
  zero : ws[0]? = some []
  srt : ws.Pairwise sle
  nd : (ws.map (run2 tab p)).Nodup
  from_ : ∀ u ∈ ws, u = [] ∨ ∃ (i : Nat) (v : List Nat) (x : Nat), ws[i]? = some v ∧ u = v ++ [x] ∧ (i < at_ ∨ (i = at_ ∧ x < jj))
  cls : ∀ i, i < at_ → ∀ v, ws[i]? = some v → ∀ j, j < m → ∃ u ∈ ws, run2 tab p u = run2 tab p (v ++ [j]) ∧ sle u (v ++ [j])
  cls2 : ∀ v, ws[at_]? = some v → ∀ j, j < jj → ∃ u ∈ ws, run2 tab p u = run2 tab p (v ++ [j]) ∧ sle u (v ++ [j])
  no : ∀ i, i < at_ → ∀ v, ws[i]? = some v → ¬ parts tab good p v
theorem BF.start : BF m tab good p 0 0 [[]] where
  wd := fun w hw => by rw [List.mem_singleton.mp hw]; exact fun j hj => (by cases hj)
  zero := rfl
  srt := List.pairwise_singleton _ _
  nd := by simp
  from_ := fun u hu => .inl (List.mem_singleton.mp hu)
  cls := fun i hi => by omega
  cls2 := fun v hv j hj => by omega
  no := fun i hi => by omega
theorem BF.le {at_ jj : Nat} {ws : List (List Nat)} (h : BF m tab good p at_ jj ws) {i j : Nat} {v w : List Nat} (hv : ws[i]? = some v) (hw : ws[j]? = some w) (hij : i ≤ j) : sle v w := by
  rcases Nat.lt_or_ge i j with q | q
  · obtain ⟨hi, e1⟩ := List.getElem?_eq_some_iff.mp hv
    obtain ⟨hj, e2⟩ := List.getElem?_eq_some_iff.mp hw
    rw [← e1, ← e2]
    exact List.pairwise_iff_getElem.mp h.srt i j hi hj q
  · have : i = j := Nat.le_antisymm hij q
    subst this
    rw [hv] at hw
    rw [Option.some.inj hw]
    exact sle.refl _
theorem BF.inj {at_ jj : Nat} {ws : List (List Nat)} (h : BF m tab good p at_ jj ws) {i j : Nat} {v : List Nat} (hv : ws[i]? = some v) (hw : ws[j]? = some v) : i = j := by
  have h1 : (ws.map (run2 tab p))[i]? = some (run2 tab p v) := by rw [List.getElem?_map, hv]; rfl
  have h2 : (ws.map (run2 tab p))[j]? = some (run2 tab p v) := by rw [List.getElem?_map, hw]; rfl
  exact (List.getElem?_inj (List.getElem?_eq_some_iff.mp h1).1 h.nd).mp (h1.trans h2.symm)
/-- all that stand are at most the word at hand with its next letter -/
theorem BF.bound {at_ jj : Nat} {ws : List (List Nat)} (h : BF m tab good p at_ jj ws) {w : List Nat} (hw : ws[at_]? = some w) {u : List Nat} (hu : u ∈ ws) : sle u (w ++ [jj]) := by
  rcases h.from_ u hu with e | ⟨i, v, x, hv, e, q⟩
  · rw [e]; exact sle.nil _
  · rw [e]
    rcases q with q | ⟨q, hx⟩
    · exact (h.le hv hw (Nat.le_of_lt q)).snoc fun z => by
        rw [z] at hv
        have := h.inj hv hw
        omega
    · subst q
      rw [hv] at hw
      rw [Option.some.inj hw]
      exact (sle.refl w).snoc fun _ => Nat.le_of_lt hx
/-- the letter leads to what stands already -/
theorem BF.old {at_ jj : Nat} {ws : List (List Nat)} (h : BF m tab good p at_ jj ws) {w : List Nat} (hw : ws[at_]? = some w) (ho : run2 tab p (w ++ [jj]) ∈ ws.map (run2 tab p)) : BF m tab good p at_ (jj + 1) ws := by
  obtain ⟨u, hu, e⟩ := List.mem_map.mp ho
  refine ⟨h.wd, h.zero, h.srt, h.nd, fun x hx => ?_, h.cls, fun v hv j hj => ?_, h.no⟩
  · rcases h.from_ x hx with e | ⟨i, v, y, hv, e, q⟩
    · exact .inl e
    · exact .inr ⟨i, v, y, hv, e, by omega⟩
  · rcases Nat.lt_or_ge j jj with q | q
    · exact h.cls2 v hv j q
    · have : j = jj := by omega
      subst this
      rw [hw] at hv
      cases hv
      exact ⟨u, hu, e, h.bound hw hu⟩
theorem BF.new {at_ jj : Nat} {ws : List (List Nat)} (h : BF m tab good p at_ jj ws) {w : List Nat} (hw : ws[at_]? = some w) (hj : jj < m) (ho : run2 tab p (w ++ [jj]) ∉ ws.map (run2 tab p)) : BF m tab good p at_ (jj + 1) (ws ++ [w ++ [jj]]) := by
  have hlt : at_ < ws.length := (List.getElem?_eq_some_iff.mp hw).1
  have up : ∀ {i : Nat} {v : List Nat}, i < ws.length → (ws ++ [w ++ [jj]])[i]? = some v → ws[i]? = some v := fun {i v} hi e => by rw [List.getElem?_append_left hi] at e; exact e
  have dn : ∀ {i : Nat} {v : List Nat}, ws[i]? = some v → (ws ++ [w ++ [jj]])[i]? = some v := fun {i v} e => by rw [List.getElem?_append_left (List.getElem?_eq_some_iff.mp e).1]; exact e
  have wm : w ∈ ws := List.mem_of_getElem? hw
  refine ⟨fun x hx => ?_, dn h.zero, List.pairwise_append.mpr ⟨h.srt, List.pairwise_singleton _ _, fun a ha b hb => ?_⟩, ?_, fun x hx => ?_, fun i hi v hv j hj => ?_, fun v hv j hj => ?_, fun i hi v hv => h.no i hi v (up (by omega) hv)⟩
  · rcases List.mem_append.mp hx with q | q
    · exact h.wd x q
    · rw [List.mem_singleton.mp q]; exact (h.wd w wm).snoc hj
  · rw [List.mem_singleton.mp hb]; exact h.bound hw ha
  · rw [List.map_append]
    refine List.nodup_append.mpr ⟨h.nd, by simp, fun a ha b hb e => ?_⟩
    rw [List.map_singleton, List.mem_singleton] at hb
    rw [e, hb] at ha
    exact ho ha
  · rcases List.mem_append.mp hx with q | q
    · rcases h.from_ x q with e | ⟨i, v, y, hv, e, q⟩
      · exact .inl e
      · exact .inr ⟨i, v, y, dn hv, e, by omega⟩
    · exact .inr ⟨at_, w, jj, dn hw, List.mem_singleton.mp q, .inr ⟨rfl, Nat.lt_succ_self _⟩⟩
  · obtain ⟨u, hu, e1, e2⟩ := h.cls i hi v (up (by omega) hv) j hj
    exact ⟨u, List.mem_append_left _ hu, e1, e2⟩
  · have hv2 := up hlt hv
    rcases Nat.lt_or_ge j jj with q | q
    · obtain ⟨u, hu, e1, e2⟩ := h.cls2 v hv2 j q
      exact ⟨u, List.mem_append_left _ hu, e1, e2⟩
    · have : j = jj := by omega
      subst this
      rw [hw] at hv2
      cases hv2
      exact ⟨w ++ [j], List.mem_append_right _ (List.mem_singleton.mpr rfl), rfl, sle.refl _⟩
theorem BF.next {at_ : Nat} {ws : List (List Nat)} (h : BF m tab good p at_ m ws) {w : List Nat} (hw : ws[at_]? = some w) (hn : ¬ parts tab good p w) : BF m tab good p (at_ + 1) 0 ws := by
  refine ⟨h.wd, h.zero, h.srt, h.nd, fun x hx => ?_, fun i hi v hv j hj => ?_, fun v hv j hj => by omega, fun i hi v hv => ?_⟩
  · rcases h.from_ x hx with e | ⟨i, v, y, hv, e, q⟩
    · exact .inl e
    · exact .inr ⟨i, v, y, hv, e, by omega⟩
  · rcases Nat.lt_or_ge i at_ with q | q
    · exact h.cls i q v hv j hj
    · have : i = at_ := by omega
      subst this
      exact h.cls2 v hv j hj
  · rcases Nat.lt_or_ge i at_ with q | q
    · exact h.no i q v hv
    · have : i = at_ := by omega
      subst this
      rw [hw] at hv
      cases hv
      exact hn
/-- each word leads where one of those that stand leads, which is no later; or one that is no later lies ahead -/
theorem BF.reach {at_ jj : Nat} {ws : List (List Nat)} (h : BF m tab good p at_ jj ws) : ∀ (n : Nat) {v : List Nat}, v.length = n → Wd m v →
    (∃ i u, i < at_ ∧ ws[i]? = some u ∧ run2 tab p u = run2 tab p v ∧ sle u v) ∨ ∃ i u, at_ ≤ i ∧ ws[i]? = some u ∧ sle u v
  | 0, v, hl, _ => by
    have : v = [] := List.length_eq_zero_iff.mp hl
    subst this
    rcases Nat.lt_or_ge 0 at_ with q | q
    · exact .inl ⟨0, [], q, h.zero, rfl, sle.refl _⟩
    · exact .inr ⟨0, [], q, h.zero, sle.refl _⟩
  | n + 1, v, hl, hv => by
    obtain ⟨v0, x, rfl⟩ : ∃ v0 x, v = v0 ++ [x] := ⟨v.dropLast, v.getLast (fun q => by rw [q] at hl; cases hl), (List.dropLast_concat_getLast _).symm⟩
    have hl0 : v0.length = n := by rw [List.length_append] at hl; simpa using hl
    have hv0 : Wd m v0 := fun j hj => hv j (List.mem_append_left _ hj)
    have hx : x < m := hv x (List.mem_append_right _ (List.mem_singleton.mpr rfl))
    rcases h.reach n hl0 hv0 with ⟨i, u, hi, hu, e, le⟩ | ⟨i, u, hi, hu, le⟩
    · obtain ⟨y, hy, e2, le2⟩ := h.cls i hi u hu x hx
      obtain ⟨k, hk⟩ := List.getElem?_of_mem hy
      have le3 : sle y (v0 ++ [x]) := le2.trans (le.snoc fun _ => Nat.le_refl x)
      rcases Nat.lt_or_ge k at_ with q | q
      · refine .inl ⟨k, y, q, hk, ?_, le3⟩
        rw [e2, run2_app, run2_app, e]
      · exact .inr ⟨k, y, q, hk, le3⟩
    · exact .inr ⟨i, u, hi, hu, le.trans (sle.pre _ _)⟩
theorem parts_run {u v : List Nat} (e : run2 tab p u = run2 tab p v) : parts tab good p u ↔ parts tab good p v := by
  have e1 : runT tab p.1 u = runT tab p.1 v := congrArg Prod.fst e
  have e2 : runT tab p.2 u = runT tab p.2 v := congrArg Prod.snd e
  unfold parts
  rw [e1, e2]
theorem BF.none {at_ jj : Nat} {ws : List (List Nat)} (h : BF m tab good p at_ jj ws) (hl : ws.length ≤ at_) : IsL m tab good p none := fun v hv pv => by
  rcases h.reach v.length rfl hv with ⟨i, u, hi, hu, e, _⟩ | ⟨i, u, hi, hu, le⟩
  · exact absurd ((parts_run e).mpr pv) (h.no i hi u hu)
  · have := (List.getElem?_eq_some_iff.mp hu).1
    omega
end
/-! ### how far -/
section
variable {m : Nat} {tab : Tab} {good : List Int}
/-- parted by a word of up to k letters -/
def Dk (m : Nat) (tab : Tab) (good : List Int) (k : Nat) (p : Int × Int) : Prop := ∃ w, Wd m w ∧ w.length ≤ k ∧ parts tab good p w
def Dist (m : Nat) (tab : Tab) (good : List Int) (p : Int × Int) (k : Nat) : Prop := Dk m tab good k p ∧ ∀ j, j < k → ¬ Dk m tab good j p
def InP (tab : Tab) (p : Int × Int) : Prop := InR tab p.1 ∧ InR tab p.2
theorem Dk.le {k l : Nat} {p : Int × Int} (h : Dk m tab good k p) (hkl : k ≤ l) : Dk m tab good l p := let ⟨w, h1, h2, h3⟩ := h; ⟨w, h1, Nat.le_trans h2 hkl, h3⟩
theorem Dk.zero {p : Int × Int} : Dk m tab good 0 p ↔ parts tab good p [] := by
  constructor
  · rintro ⟨w, _, h2, h3⟩
    have : w = [] := List.length_eq_zero_iff.mp (by omega)
    rw [this] at h3
    exact h3
  · exact fun h => ⟨[], fun j hj => (by cases hj), Nat.le_refl 0, h⟩
theorem Dk.succ {k : Nat} {p : Int × Int} : Dk m tab good (k + 1) p ↔ Dk m tab good 0 p ∨ ∃ j, j < m ∧ Dk m tab good k (stp2 tab p j) := by
  constructor
  · rintro ⟨w, h1, h2, h3⟩
    cases w with
    | nil => exact .inl (Dk.zero.mpr h3)
    | cons j w => exact .inr ⟨j, h1 j List.mem_cons_self, w, fun x hx => h1 x (List.mem_cons_of_mem _ hx), Nat.le_of_succ_le_succ h2, parts_cons.mp h3⟩
  · rintro (h | ⟨j, hj, w, h1, h2, h3⟩)
    · exact h.le (Nat.zero_le _)
    · refine ⟨j :: w, fun x hx => ?_, Nat.succ_le_succ h2, parts_cons.mpr h3⟩
      rcases List.mem_cons.mp hx with e | e
      · rw [e]; exact hj
      · exact h1 x e
theorem Dist.uniq {p : Int × Int} {k l : Nat} (h : Dist m tab good p k) (h' : Dist m tab good p l) : k = l := by
  rcases Nat.lt_trichotomy k l with q | q | q
  · exact absurd h.1 (h'.2 k q)
  · exact q
  · exact absurd h'.1 (h.2 l q)
theorem Dk.dist {k : Nat} {p : Int × Int} (h : Dk m tab good k p) : ∃ d, d ≤ k ∧ Dist m tab good p d := by
  obtain ⟨d, h1, h2, h3⟩ := least_of (P := fun k => Dk m tab good k p) h
  exact ⟨d, h1, h2, h3⟩
/-- the pairs parted by up to t letters, each with how many -/
def FarT (m : Nat) (tab : Tab) (good : List Int) (t : Nat) (far : List ((Int × Int) × Int)) : Prop := ∀ p d, dget far p = some d ↔ InP tab p ∧ ∃ k, k ≤ t ∧ d = (k : Int) ∧ Dist m tab good p k
theorem FarT.mem {t : Nat} {far : List ((Int × Int) × Int)} (h : FarT m tab good t far) {p : Int × Int} (hp : InP tab p) : (dget far p).isSome = true ↔ Dk m tab good t p := by
  constructor
  · intro q
    obtain ⟨d, e⟩ := Option.isSome_iff_exists.mp q
    obtain ⟨_, k, hk, _, hd⟩ := (h p d).mp e
    exact hd.1.le hk
  · intro q
    obtain ⟨d, hd, q⟩ := q.dist
    rw [(h p d).mpr ⟨hp, d, hd, rfl, q⟩]
    rfl
theorem FarT.dist {t : Nat} {far : List ((Int × Int) × Int)} (h : FarT m tab good t far) {p : Int × Int} (hp : InP tab p) {k : Nat} (hk : k ≤ t) (q : Dist m tab good p k) : dget far p = some (k : Int) := (h p k).mpr ⟨hp, k, hk, rfl, q⟩
theorem FarT.step {t : Nat} {far far' : List ((Int × Int) × Int)} (h : FarT m tab good t far) (e1 : ∀ p, InP tab p ∧ Dk m tab good (t + 1) p ∧ ¬ Dk m tab good t p → dget far' p = some ((t + 1 : Nat) : Int)) (e2 : ∀ p, ¬ (InP tab p ∧ Dk m tab good (t + 1) p ∧ ¬ Dk m tab good t p) → dget far' p = dget far p) : FarT m tab good (t + 1) far' := fun p d => by
  constructor
  · intro q
    by_cases c : InP tab p ∧ Dk m tab good (t + 1) p ∧ ¬ Dk m tab good t p
    · rw [e1 p c] at q
      exact ⟨c.1, t + 1, Nat.le_refl _, (Option.some.inj q).symm, c.2.1, fun j hj hd => c.2.2 (hd.le (Nat.le_of_lt_succ hj))⟩
    · rw [e2 p c] at q
      obtain ⟨h1, k, hk, h2⟩ := (h p d).mp q
      exact ⟨h1, k, Nat.le_succ_of_le hk, h2⟩
  · rintro ⟨hp, k, hk, ed, hd⟩
    rcases Nat.lt_or_ge t k with q | q
    · have : k = t + 1 := by omega
      subst this
      rw [e1 p ⟨hp, hd.1, hd.2 t q⟩, ed]
    · rw [e2 p (fun c => c.2.2 (hd.1.le q))]
      exact (h p d).mpr ⟨hp, k, q, ed, hd⟩
theorem run2_in (hT : TOk m tab) {p : Int × Int} (hp : InP tab p) {w : List Nat} (hw : Wd m w) : InP tab (run2 tab p w) := ⟨run_in hT hp.1 hw, run_in hT hp.2 hw⟩
/-- the word so far, of a least one: none that parts begins ahead of it -/
structure Gr (m : Nat) (tab : Tab) (good : List Int) (p : Int × Int) (d i : Nat) (u : List Nat) : Prop where
  wd : Wd m u
  len : u.length = i
  far : Dist m tab good (run2 tab p u) (d - i)
  le : i ≤ d
  first : ∀ v, Wd m v → v.length = d → parts tab good p v → lexle u (v.take i)
theorem Gr.start {p : Int × Int} {d : Nat} (h : Dist m tab good p d) : Gr m tab good p d 0 [] := ⟨fun j hj => (by cases hj), rfl, h, Nat.zero_le _, fun _ _ _ _ => trivial⟩
theorem Gr.step {p : Int × Int} {d i : Nat} {u : List Nat} (g : Gr m tab good p d i u) (hi : i < d) {j : Nat} (hj : j < m) (hd : Dist m tab good (stp2 tab (run2 tab p u) j) (d - (i + 1)))
    (hb : ∀ j', j' < j → ¬ Dist m tab good (stp2 tab (run2 tab p u) j') (d - (i + 1))) : Gr m tab good p d (i + 1) (u ++ [j]) := by
  refine ⟨g.wd.snoc hj, by rw [List.length_append, g.len]; rfl, by rw [run2_app]; exact hd, hi, fun v hv hl hp => ?_⟩
  have h0 := g.first v hv hl hp
  have hiv : i < v.length := by omega
  rw [List.take_succ_eq_append_getElem hiv]
  refine h0.snoc (by rw [g.len, List.length_take]; omega) fun e => ?_
  refine Nat.le_of_not_lt fun q => hb _ q ⟨?_, fun l hl2 hd2 => ?_⟩
  · have ev : v = u ++ v[i] :: v.drop (i + 1) := by
      rw [e]
      rw [← List.drop_eq_getElem_cons hiv, List.take_append_drop]
    rw [ev] at hp
    refine ⟨v.drop (i + 1), fun x hx => hv x (List.mem_of_mem_drop hx), by rw [List.length_drop]; omega, ?_⟩
    exact parts_cons.mp (parts_app.mp hp)
  · refine g.far.2 (l + 1) (by omega) (Dk.succ.mpr (.inr ⟨_, ?_, hd2⟩))
    exact hv _ (List.getElem_mem hiv)
theorem Gr.done {p : Int × Int} {d : Nat} {u : List Nat} (g : Gr m tab good p d d u) (hd : Dist m tab good p d) : IsL m tab good p (some u) := by
  refine ⟨g.wd, ?_, fun v hv hp => ?_⟩
  · have := g.far.1
    rw [Nat.sub_self] at this
    have := Dk.zero.mp this
    have := (parts_app (w := [])).mpr this
    rw [List.append_nil] at this
    exact this
  · rcases Nat.lt_trichotomy v.length d with q | q | q
    · exact absurd ⟨v, hv, Nat.le_refl _, hp⟩ (hd.2 v.length q)
    · have := g.first v hv q hp
      rw [List.take_of_length_le (by omega)] at this
      exact .inr ⟨by rw [g.len, q], this⟩
    · exact .inl (by rw [g.len]; exact q)
/-! ### all words of so many letters, in order -/
end
end KM
namespace KM
open PySem MD KP
/-! ### as pairs with their rows -/
theorem row_get {m : Nat} {tab : Tab} (h : TOk m tab) {s : Int} (hs : InR tab s) {j : Nat} (hj : j < m) : (pyIx tab s)[j]? = some (stp tab s j) := by
  have hr : pyIx tab s ∈ tab := pyIx_mem hs.1 hs.2
  have hl := h.len _ hr
  obtain ⟨x, e, hx⟩ := pyIx_nat (xs := pyIx tab s) (i := (j : Int)) (by omega) (by omega)
  unfold stp
  rw [e]
  exact hx
section
variable {m : Nat} {tab : Tab} {good : List Int} {p : Int × Int}
theorem all_len (n : Nat) : ((rng 0 (n : Int)).flatMap fun x => (rng 0 (n : Int)).map fun y => (x, y)).length = n * n := by
  rw [List.length_flatMap]
  have hr : (rng 0 (n : Int)).length = n := by rw [rng_length]; omega
  have : ∀ l : List Int, (l.map fun x => ((rng 0 (n : Int)).map fun y => (x, y)).length).sum = l.length * n := fun l => by
    induction l with
    | nil => simp
    | cons a l ih =>
      rw [List.map_cons, List.sum_cons, ih, List.length_map, hr, List.length_cons, Nat.add_mul, Nat.one_mul, Nat.add_comm]
  rw [this, hr]
theorem rng_in {n : Nat} {g : Int} (h0 : 0 ≤ g) (h1 : g < n) : g ∈ rng 0 (n : Int) := List.mem_map.mpr ⟨g.toNat, List.mem_range.mpr (by omega), by omega⟩
theorem BF.few (hT : TOk m tab) (hp : InP tab p) {at_ jj : Nat} {ws : List (List Nat)} (h : BF m tab good p at_ jj ws) : ws.length ≤ tab.length * tab.length := by
  have := nodup_sub_len (ys := (rng 0 (tab.length : Int)).flatMap fun x => (rng 0 (tab.length : Int)).map fun y => (x, y)) h.nd fun q hq => by
    obtain ⟨w, hw, rfl⟩ := List.mem_map.mp hq
    have := run2_in hT hp (h.wd w hw)
    exact List.mem_flatMap.mpr ⟨_, rng_in this.1.1 this.1.2, List.mem_map.mpr ⟨_, rng_in this.2.1 this.2.2, rfl⟩⟩
  rw [all_len, List.length_map] at this
  exact this
theorem FarT.getD {t : Nat} {far : List ((Int × Int) × Int)} (h : FarT m tab good t far) {q : Int × Int} (hq : InP tab q) {k : Nat} (hk : k ≤ t) : (dget far q).getD (-1) = (k : Int) ↔ Dist m tab good q k := by
  constructor
  · intro e
    cases c : dget far q with
    | none =>
      rw [c] at e
      have e : (-1 : Int) = (k : Int) := e
      omega
    | some d =>
      rw [c] at e
      have e : d = (k : Int) := e
      obtain ⟨_, k', _, e2, hd⟩ := (h q d).mp c
      have : k' = k := by omega
      rw [← this]
      exact hd
  · intro hd
    rw [h.dist hq hk hd]
    rfl
end
end KM
/-! least forms: numberings, colourings of states, canonical tables -/
namespace KM
open PySem MD KP
/-- the first ones, each once -/
def firsts {κ : Type} [DecidableEq κ] (xs : List κ) : List κ := xs.foldl (fun acc s => if s ∈ acc then acc else acc ++ [s]) []
def numOf {κ : Type} [DecidableEq κ] (xs : List κ) (s : κ) : Int := (((firsts xs).idxOf s : Nat) : Int)
section
variable {κ : Type} [DecidableEq κ]
theorem rev_ind {P : List κ → Prop} (h0 : P []) (h1 : ∀ xs s, P xs → P (xs ++ [s])) (xs : List κ) : P xs := by
  have key : ∀ l : List κ, P l.reverse := fun l => by
    induction l with
    | nil => exact h0
    | cons a l ih => rw [List.reverse_cons]; exact h1 _ _ ih
  have := key xs.reverse
  rw [List.reverse_reverse] at this
  exact this
theorem firsts_snoc (xs : List κ) (s : κ) : firsts (xs ++ [s]) = if s ∈ firsts xs then firsts xs else firsts xs ++ [s] := by
  unfold firsts
  rw [List.foldl_append]
  rfl
theorem firsts_pre (xs : List κ) : ∀ ys, ∃ zs, firsts (xs ++ ys) = firsts xs ++ zs := rev_ind (P := fun ys => ∃ zs, firsts (xs ++ ys) = firsts xs ++ zs) ⟨[], by simp⟩ fun ys s ⟨zs, e⟩ => by
  rw [← List.append_assoc, firsts_snoc, e]
  by_cases c : s ∈ firsts xs ++ zs
  · rw [if_pos c]; exact ⟨zs, rfl⟩
  · rw [if_neg c]; exact ⟨zs ++ [s], by rw [List.append_assoc]⟩
theorem firsts_nodup : ∀ xs : List κ, (firsts xs).Nodup := rev_ind (P := fun xs => (firsts xs).Nodup) List.nodup_nil fun xs s ih => by
  rw [firsts_snoc]
  by_cases c : s ∈ firsts xs
  · rw [if_pos c]; exact ih
  · rw [if_neg c]
    exact List.nodup_append.mpr ⟨ih, by simp, fun a ha b hb e => c (by rw [List.mem_singleton] at hb; rw [← hb, ← e]; exact ha)⟩
theorem firsts_mem (s : κ) : ∀ xs : List κ, s ∈ firsts xs ↔ s ∈ xs := rev_ind (P := fun xs => s ∈ firsts xs ↔ s ∈ xs) Iff.rfl fun xs a ih => by
  rw [firsts_snoc, List.mem_append, List.mem_singleton]
  by_cases c : a ∈ firsts xs
  · rw [if_pos c, ih]
    exact ⟨.inl, fun h => h.elim id fun e => e ▸ ih.mp (e ▸ c)⟩
  · rw [if_neg c, List.mem_append, List.mem_singleton, ih]
theorem firsts_len : ∀ xs : List κ, (firsts xs).length ≤ xs.length := rev_ind (P := fun xs => (firsts xs).length ≤ xs.length) (Nat.le_refl 0) fun xs a ih => by
  rw [firsts_snoc, List.length_append]
  by_cases c : a ∈ firsts xs
  · rw [if_pos c]; exact Nat.le_succ_of_le ih
  · rw [if_neg c, List.length_append]; exact Nat.succ_le_succ ih
theorem idx_inj {l : List κ} {x y : κ} (hx : x ∈ l) (h : l.idxOf x = l.idxOf y) : x = y := by
  have h1 : l.idxOf x < l.length := List.idxOf_lt_length_iff.mpr hx
  have e1 := List.getElem_idxOf h1
  have e2 := List.getElem_idxOf (h ▸ h1 : l.idxOf y < l.length)
  rw [← e1, ← e2]
  congr 1
theorem numOf_inj {xs : List κ} {s t : κ} (hs : s ∈ xs) (h : numOf xs s = numOf xs t) : s = t := idx_inj ((firsts_mem s xs).mpr hs) (by unfold numOf at h; omega)
theorem numOf_lt {xs : List κ} {s : κ} (hs : s ∈ xs) : 0 ≤ numOf xs s ∧ numOf xs s < (firsts xs).length := by
  have := List.idxOf_lt_length_iff.mpr ((firsts_mem s xs).mpr hs)
  unfold numOf
  omega
theorem numOf_sur {xs : List κ} {i : Nat} (h : i < (firsts xs).length) : ∃ s ∈ xs, numOf xs s = (i : Int) := by
  refine ⟨(firsts xs)[i], (firsts_mem _ xs).mp (List.getElem_mem h), ?_⟩
  unfold numOf
  have h1 : (firsts xs).idxOf (firsts xs)[i] < (firsts xs).length := List.idxOf_lt_length_iff.mpr (List.getElem_mem h)
  have h2 : (firsts xs)[(firsts xs).idxOf (firsts xs)[i]]? = (firsts xs)[i]? := by
    rw [List.getElem?_eq_getElem h1, List.getElem_idxOf h1, List.getElem?_eq_getElem h]
  have := (List.getElem?_inj h1 (firsts_nodup xs)).mp h2
  omega
/-- a list's places, as pairs -/
def prs {κ : Type} : Nat → List κ → List (κ × Int)
  | _, [] => []
  | n, k :: r => (k, (n : Int)) :: prs (n + 1) r
theorem prs_keys {κ : Type} : ∀ (n : Nat) (l : List κ), (prs n l).map (·.1) = l
  | _, [] => rfl
  | n, k :: r => by
    show k :: (prs (n + 1) r).map (·.1) = _
    rw [prs_keys (n + 1) r]
theorem prs_app {κ : Type} : ∀ (n : Nat) (l : List κ) (k : κ), prs n (l ++ [k]) = prs n l ++ [(k, ((n + l.length : Nat) : Int))]
  | n, [], k => rfl
  | n, x :: l, k => by
    show (x, (n : Int)) :: prs (n + 1) (l ++ [k]) = _
    rw [prs_app (n + 1) l k]
    show _ = (x, (n : Int)) :: (prs (n + 1) l ++ [(k, ((n + (l.length + 1) : Nat) : Int))])
    rw [show n + 1 + l.length = n + (l.length + 1) by omega]
theorem prs_len {κ : Type} : ∀ (n : Nat) (l : List κ), (prs n l).length = l.length
  | _, [] => rfl
  | n, k :: r => by
    show (prs (n + 1) r).length + 1 = _
    rw [prs_len (n + 1) r]
    rfl
theorem dget_prs : ∀ (n : Nat) {l : List κ} {m : κ}, m ∈ l → dget (prs n l) m = some ((n + l.idxOf m : Nat) : Int)
  | n, [], m, h => by cases h
  | n, k :: r, m, h => by
    by_cases e : k = m
    · subst e
      unfold dget
      show Option.map _ (List.find? _ ((k, (n : Int)) :: prs (n + 1) r)) = _
      rw [List.find?_cons_of_pos (by simp), List.idxOf_cons_self]
      rfl
    · have h2 : m ∈ r := (List.mem_cons.mp h).resolve_left (Ne.symm e)
      have ih := dget_prs (n + 1) h2
      unfold dget at ih ⊢
      show Option.map _ (List.find? _ ((k, (n : Int)) :: prs (n + 1) r)) = _
      rw [List.find?_cons_of_neg (by simp [e]), ih, List.idxOf_cons, beq_eq_false_iff_ne.mpr e, cond_false]
      congr 2
      omega
theorem dput_keyed {α : Type} {kvs : List (κ × α)} {x : κ} {y : α} (h : x ∉ kvs.map (·.1)) : dput kvs x y = kvs ++ [(x, y)] := by
  unfold dput
  rw [if_neg]
  intro e
  obtain ⟨p, hp, q⟩ := List.any_eq_true.mp e
  exact h (List.mem_map.mpr ⟨p, hp, of_decide_eq_true q⟩)
theorem prs_none (n : Nat) {l : List κ} {m : κ} (h : m ∉ l) : dget (prs n l) m = none := by
  unfold dget
  rw [List.find?_eq_none.mpr fun p hp c => h (by
    have : p.1 ∈ (prs n l).map (·.1) := List.mem_map.mpr ⟨p, hp, rfl⟩
    rw [prs_keys] at this
    rw [← of_decide_eq_true c]
    exact this)]
  rfl
theorem prs_put {l : List κ} {m : κ} (h : m ∉ l) : dput (prs 0 l) m ((l.length : Nat) : Int) = prs 0 (l ++ [m]) := by
  rw [dput_keyed (by rw [prs_keys]; exact h), prs_app, Nat.zero_add]
/-- the next sign's number, and what is known behind it -/
theorem numbered_step {xs : List κ} {i : Nat} {x : κ} (hx : xs[i]? = some x) : (dget (prs 0 (firsts (xs.take i))) x).getD ((prs 0 (firsts (xs.take i))).length : Nat) = numOf xs x ∧
    (if (dget (prs 0 (firsts (xs.take i))) x).isSome then prs 0 (firsts (xs.take i)) else prs 0 (firsts (xs.take i)) ++ [(x, (((prs 0 (firsts (xs.take i))).length : Nat) : Int))]) = prs 0 (firsts (xs.take (i + 1))) := by
  have e1 : xs.take (i + 1) = xs.take i ++ [x] := take_step hx
  obtain ⟨zs, e2⟩ := firsts_pre (xs.take (i + 1)) (xs.drop (i + 1))
  rw [List.take_append_drop, e1, firsts_snoc] at e2
  rw [e1, firsts_snoc, prs_len]
  by_cases c : x ∈ firsts (xs.take i)
  · rw [if_pos c] at e2 ⊢
    rw [dget_prs 0 c]
    refine ⟨?_, by rw [if_pos (by simp)]⟩
    unfold numOf
    rw [e2, List.idxOf_append, if_pos c, Nat.zero_add]
    rfl
  · rw [if_neg c] at e2 ⊢
    rw [prs_none 0 c]
    refine ⟨?_, by rw [if_neg (by simp), prs_app, Nat.zero_add]⟩
    unfold numOf
    rw [e2, List.append_assoc, List.idxOf_append, if_neg c, List.singleton_append, List.idxOf_cons_self, Nat.zero_add]
    rfl
end
/-! ### colourings -/
def Al (m : Nat) (tab : Tab) (good : List Int) (s t : Int) : Prop := ∀ w, Wd m w → ¬ parts tab good (s, t) w
section
variable {m : Nat} {tab : Tab} {good : List Int}
theorem Al.ek {s t : Int} (h : Al m tab good s t) (k : Nat) : Ek m tab good k s t := fun w hw _ => h w hw
theorem Al.refl (s : Int) : Al m tab good s s := fun w _ h => h Iff.rfl
theorem Al.symm {s t : Int} (h : Al m tab good s t) : Al m tab good t s := fun w hw q => h w hw (parts_symm q)
theorem Al.step {s t : Int} (h : Al m tab good s t) {j : Nat} (hj : j < m) : Al m tab good (stp tab s j) (stp tab t j) := fun w hw q => h (j :: w) (fun x hx => by
  rcases List.mem_cons.mp hx with e | e
  · rw [e]; exact hj
  · exact hw x e) ((parts_cons (p := (s, t))).mpr q)
theorem Al.good_iff {s t : Int} (h : Al m tab good s t) : s ∈ good ↔ t ∈ good := Classical.not_not.mp (h [] fun _ hx => (by cases hx))
/-- a colour for each state: alike ones by words of k letters have one -/
structure Col (m : Nat) (tab : Tab) (good : List Int) (k : Nat) (cs : List Int) : Prop where
  len : cs.length = tab.length
  iff : ∀ s t, InR tab s → InR tab t → (pyIx cs s = pyIx cs t ↔ Ek m tab good k s t)
structure ColA (m : Nat) (tab : Tab) (good : List Int) (cs : List Int) : Prop where
  len : cs.length = tab.length
  iff : ∀ s t, InR tab s → InR tab t → (pyIx cs s = pyIx cs t ↔ Al m tab good s t)
/-- a colouring by numbers from nought, none left out -/
structure Num (cs : List Int) (N : Nat) : Prop where
  lo : ∀ c ∈ cs, 0 ≤ c ∧ c < N
  sur : ∀ i, i < N → (i : Int) ∈ cs
theorem inr_of {s : Nat} (h : s < tab.length) : InR tab (s : Int) := ⟨by omega, by omega⟩
theorem pyIx_map {α β : Type} [Inhabited α] [Inhabited β] (f : α → β) {xs : List α} {i : Int} (h0 : 0 ≤ i) (h1 : i < xs.length) : pyIx (xs.map f) i = f (pyIx xs i) := by
  obtain ⟨x, e1, e2⟩ := pyIx_nat h0 h1
  obtain ⟨y, e3, e4⟩ := pyIx_nat (xs := xs.map f) h0 (by rw [List.length_map]; exact h1)
  rw [List.getElem?_map, e2] at e4
  rw [e3, e1]
  exact (Option.some.inj e4).symm
theorem col_of {κ : Type} [DecidableEq κ] [Inhabited κ] {k : Nat} {xs : List κ} (hl : xs.length = tab.length) (h : ∀ s t, InR tab s → InR tab t → (pyIx xs s = pyIx xs t ↔ Ek m tab good k s t)) : Col m tab good k (xs.map (numOf xs)) := by
  refine ⟨by rw [List.length_map, hl], fun s t hs ht => ?_⟩
  have h1 : s < (xs.length : Int) := by rw [hl]; exact hs.2
  have h2 : t < (xs.length : Int) := by rw [hl]; exact ht.2
  rw [pyIx_map _ hs.1 h1, pyIx_map _ ht.1 h2, ← h s t hs ht]
  exact ⟨fun e => numOf_inj (pyIx_mem hs.1 h1) e, fun e => by rw [e]⟩
theorem num_of {κ : Type} [DecidableEq κ] (xs : List κ) : Num (xs.map (numOf xs)) (firsts xs).length := by
  refine ⟨fun c hc => ?_, fun i hi => ?_⟩
  · obtain ⟨s, hs, rfl⟩ := List.mem_map.mp hc
    exact numOf_lt hs
  · obtain ⟨s, hs, e⟩ := numOf_sur hi
    exact List.mem_map.mpr ⟨s, hs, e⟩
theorem Num.max {cs : List Int} {N : Nat} (h : Num cs N) (hne : cs ≠ []) : maxI 0 cs + 1 = (N : Int) := by
  obtain ⟨h1, h2⟩ := maxI_ub (d := 0) hne
  have h3 := h.lo _ h1
  have h4 := h2 _ (h.sur (N - 1) (by omega))
  omega
open Classical in
/-- so many colours as least ones of their classes -/
theorem Col.count {k N : Nat} {cs : List Int} (h : Col m tab good k cs) (hN : Num cs N) : N = (reps m tab good k).length := by
  have hrep : ∀ s ∈ reps m tab good k, s < tab.length ∧ ∀ t : Nat, t < s → ¬ Ek m tab good k (t : Int) (s : Int) := fun s hs => by
    obtain ⟨a, b⟩ := List.mem_filter.mp hs
    exact ⟨List.mem_range.mp a, of_decide_eq_true b⟩
  have rnd : (reps m tab good k).Nodup := List.nodup_range.sublist List.filter_sublist
  have nd : ((reps m tab good k).map fun s : Nat => pyIx cs (s : Int)).Nodup := by
    refine nodup_mapOn (fun a ha b hb e => ?_) rnd
    obtain ⟨a1, a2⟩ := hrep a ha
    obtain ⟨b1, b2⟩ := hrep b hb
    have e := (h.iff _ _ (inr_of a1) (inr_of b1)).mp e
    rcases Nat.lt_trichotomy a b with q | q | q
    · exact absurd e (b2 a q)
    · exact q
    · exact absurd e.symm (a2 b q)
  have e1 : ∀ x ∈ (reps m tab good k).map (fun s : Nat => pyIx cs (s : Int)), x ∈ rng 0 (N : Int) := fun x hx => by
    obtain ⟨s, hs, rfl⟩ := List.mem_map.mp hx
    have := hN.lo _ (pyIx_mem (xs := cs) (i := (s : Int)) (by omega) (by rw [h.len]; exact (inr_of (hrep s hs).1).2))
    exact rng_in this.1 this.2
  have e2 : ∀ x ∈ rng 0 (N : Int), x ∈ (reps m tab good k).map (fun s : Nat => pyIx cs (s : Int)) := fun x hx => by
    obtain ⟨i, hi, rfl⟩ := List.mem_map.mp hx
    have hi : i < N := by have := List.mem_range.mp hi; omega
    have hm := hN.sur i hi
    obtain ⟨s, hs, es⟩ := List.getElem_of_mem hm
    have hst : s < tab.length := by rw [← h.len]; exact hs
    have ps : pyIx cs (s : Int) = (i : Int) := by
      obtain ⟨y, y1, y2⟩ := pyIx_nat (xs := cs) (i := (s : Int)) (by omega) (by omega)
      rw [y1]
      rw [show ((s : Int).toNat) = s by omega, List.getElem?_eq_getElem hs, es] at y2
      exact (Option.some.inj y2).symm
    obtain ⟨r, hr, er, lr⟩ := least_of (P := fun r => Ek m tab good k (r : Int) (s : Int)) (n := s) (Ek.refl k _)
    refine List.mem_map.mpr ⟨r, List.mem_filter.mpr ⟨List.mem_range.mpr (by omega), decide_eq_true fun t ht q => lr t ht (q.trans er)⟩, ?_⟩
    rw [(h.iff _ _ (inr_of (by omega)) (inr_of hst)).mpr er, ps]
    omega
  have rl : (rng 0 (N : Int)).length = N := by rw [rng_length]; omega
  have rn : (rng 0 (N : Int)).Nodup := by
    unfold rng
    refine nodup_mapOn (fun a _ b _ e => ?_) List.nodup_range
    omega
  have l1 := nodup_sub_len nd e1
  have l2 := nodup_sub_len rn e2
  rw [List.length_map] at l1 l2
  omega
/-- the first colours: good or not -/
theorem ek_zero {s t : Int} : Ek m tab good 0 s t ↔ (s ∈ good ↔ t ∈ good) := by
  constructor
  · exact fun h => Classical.not_not.mp (h [] (fun _ hx => (by cases hx)) (Nat.le_refl 0))
  · intro h w _ hl q
    have : w = [] := List.length_eq_zero_iff.mp (Nat.le_zero.mp hl)
    subst this
    exact q h
theorem rng_ix {n : Nat} {s : Int} (h0 : 0 ≤ s) (h1 : s < n) : pyIx (rng 0 (n : Int)) s = s := by
  obtain ⟨y, y1, y2⟩ := pyIx_nat (xs := rng 0 (n : Int)) (i := s) h0 (by rw [rng_length]; omega)
  rw [y1]
  unfold rng at y2
  rw [List.getElem?_map, List.getElem?_range (by omega)] at y2
  have : (0 : Int) + (s.toNat : Int) = y := Option.some.inj y2
  omega
theorem col_zero {κ : Type} [DecidableEq κ] [Inhabited κ] {f : Int → κ} (hf : ∀ s t, f s = f t ↔ (s ∈ good ↔ t ∈ good)) : ∀ s t, InR tab s → InR tab t → (pyIx ((rng 0 (tab.length : Int)).map f) s = pyIx ((rng 0 (tab.length : Int)).map f) t ↔ Ek m tab good 0 s t) := fun s t hs ht => by
  rw [pyIx_map _ hs.1 (by rw [rng_length]; have := hs.1; have := hs.2; omega), pyIx_map _ ht.1 (by rw [rng_length]; have := ht.1; have := ht.2; omega), rng_ix hs.1 hs.2, rng_ix ht.1 ht.2, hf, ek_zero]
/-- one letter more -/
theorem Col.next (hT : TOk m tab) {k : Nat} {cs : List Int} (h : Col m tab good k cs) {s t : Int} (hs : InR tab s) (ht : InR tab t) :
    (pyIx cs s = pyIx cs t ∧ (pyIx tab s).map (pyIx cs) = (pyIx tab t).map (pyIx cs)) ↔ Ek m tab good (k + 1) s t := by
  have l1 : (pyIx tab s).length = m := hT.len _ (pyIx_mem hs.1 hs.2)
  have l2 : (pyIx tab t).length = m := hT.len _ (pyIx_mem ht.1 ht.2)
  have key : (pyIx tab s).map (pyIx cs) = (pyIx tab t).map (pyIx cs) ↔ ∀ j, j < m → pyIx cs (stp tab s j) = pyIx cs (stp tab t j) := by
    constructor
    · intro e j hj
      have e := congrArg (fun l => l[j]?) e
      simp only [List.getElem?_map, row_get hT hs hj, row_get hT ht hj, Option.map_some] at e
      exact Option.some.inj e
    · intro e
      apply List.ext_getElem?
      intro j
      rcases Nat.lt_or_ge j m with hj | hj
      · rw [List.getElem?_map, List.getElem?_map, row_get hT hs hj, row_get hT ht hj, Option.map_some, Option.map_some, e j hj]
      · rw [List.getElem?_eq_none (by rw [List.length_map]; omega), List.getElem?_eq_none (by rw [List.length_map]; omega)]
  rw [key, h.iff s t hs ht, Ek.succ]
  constructor
  · rintro ⟨a, b⟩
    exact ⟨a.le (Nat.zero_le k), fun j hj => (h.iff _ _ (stp_in hT hs hj) (stp_in hT ht hj)).mp (b j hj)⟩
  · rintro ⟨a, b⟩
    exact ⟨(Ek.succ.mpr ⟨a, b⟩).le (Nat.le_succ k), fun j hj => (h.iff _ _ (stp_in hT hs hj) (stp_in hT ht hj)).mpr (b j hj)⟩
/-- where one letter more gives no more colours, the colours tell all -/
theorem Col.stays (hT : TOk m tab) {k : Nat} {cs : List Int} (h : Col m tab good (k + 1) cs) (hle : (reps m tab good (k + 1)).length ≤ (reps m tab good k).length) : ColA m tab good cs := by
  have hk : ∀ s t, InR tab s → InR tab t → Ek m tab good k s t → Ek m tab good (k + 1) s t := fun s t hs ht e => by
    apply Classical.byContradiction
    intro ne
    obtain ⟨a, rfl⟩ := Int.eq_ofNat_of_zero_le hs.1
    obtain ⟨b, rfl⟩ := Int.eq_ofNat_of_zero_le ht.1
    have := reps_lt (by have := hs.2; omega) (by have := ht.2; omega) e ne
    omega
  refine ⟨h.len, fun s t hs ht => (h.iff s t hs ht).trans ⟨fun e w hw => ?_, fun e => e.ek _⟩⟩
  have e : Ek m tab good k s t := e.le (Nat.le_succ k)
  have := Ek.stays hT hk w.length s t hs ht e
  exact this w hw (by omega)
/-- so many letters as states tell all -/
theorem Col.all (hT : TOk m tab) {k : Nat} {cs : List Int} (hk : tab.length ≤ k + 1) (h : Col m tab good k cs) : ColA m tab good cs := by
  refine ⟨h.len, fun s t hs ht => (h.iff s t hs ht).trans ⟨fun e w hw q => ?_, fun e => e.ek _⟩⟩
  obtain ⟨v, hv, hl, hp⟩ := short hT hs ht hw q
  exact e v hv (by omega) hp
end
/-! ### canonical tables -/
def rowC : Int → List Int → Int
  | c, [] => c
  | c, g :: r => rowC (if g = c then c + 1 else c) r
def rowOk : Int → List Int → Prop
  | _, [] => True
  | c, g :: r => 0 ≤ g ∧ g ≤ c ∧ rowOk (if g = c then c + 1 else c) r
/-- rows from row a on, c states come up by then: d at the end -/
def CanTo : Int → Int → Tab → Int → Prop
  | _, c, [], d => c = d
  | a, c, r :: t, d => a < c ∧ rowOk c r ∧ CanTo (a + 1) (rowC c r) t d
theorem rowC_snoc (g : Int) : ∀ (c : Int) (r : List Int), rowC c (r ++ [g]) = if g = rowC c r then rowC c r + 1 else rowC c r
  | c, [] => rfl
  | c, x :: r => rowC_snoc g _ r
theorem rowOk_snoc (g : Int) : ∀ (c : Int) (r : List Int), rowOk c (r ++ [g]) ↔ rowOk c r ∧ 0 ≤ g ∧ g ≤ rowC c r
  | c, [] => ⟨fun h => ⟨trivial, h.1, h.2.1⟩, fun h => ⟨h.2.1, h.2.2, trivial⟩⟩
  | c, x :: r => by
    show (_ ∧ _ ∧ rowOk _ (r ++ [g])) ↔ (_ ∧ _ ∧ _) ∧ _
    rw [rowOk_snoc g _ r]
    simp only [and_assoc]
    exact Iff.rfl
theorem rowC_le : ∀ (c : Int) (r : List Int), c ≤ rowC c r
  | c, [] => Int.le_refl c
  | c, x :: r => Int.le_trans (by split <;> omega) (rowC_le _ r)
theorem CanTo.snoc {r : List Int} : ∀ {a c d : Int} {t : Tab}, CanTo a c t d → a + t.length < d → rowOk d r → CanTo a c (t ++ [r]) (rowC d r)
  | a, c, d, [], h, hl, hr => by
    have h : c = d := h
    subst h
    exact ⟨by simpa using hl, hr, rfl⟩
  | a, c, d, x :: t, ⟨h1, h2, h3⟩, hl, hr => ⟨h1, h2, h3.snoc (by rw [List.length_cons] at hl; omega) hr⟩
theorem CanTo.le : ∀ {a c d : Int} {t : Tab}, CanTo a c t d → c ≤ d
  | _, _, _, [], h => Int.le_of_eq h
  | _, c, _, r :: _, ⟨_, _, h⟩ => Int.le_trans (rowC_le c r) h.le
/-- a least form: its states are parted, all come to, numbered as they come up -/
structure IsM (m : Nat) (tab : Tab) (good : List Int) : Prop where
  ok : TOk m tab
  can : CanTo 0 1 tab tab.length
  parted : ∀ s t, InR tab s → InR tab t → Al m tab good s t → s = t
  good : good = (rng 0 (tab.length : Int)).filter fun k => decide (k ∈ good)
def Same (m : Nat) (tab : Tab) (good : List Int) (tab' : Tab) (good' : List Int) : Prop := ∀ w, Wd m w → (runT tab 0 w ∈ good ↔ runT tab' 0 w ∈ good')
section
variable {m : Nat} {tab tab' : Tab} {good good' : List Int}
theorem Same.symm (h : Same m tab good tab' good') : Same m tab' good' tab good := fun w hw => (h w hw).symm
theorem IsM.ne (h : IsM m tab good) : InR tab 0 := by
  have := h.can.le
  exact ⟨Int.le_refl 0, by omega⟩
/-- a word that leads both tables to the state s -/
def Both (m : Nat) (tab tab' : Tab) (s : Int) : Prop := ∃ w, Wd m w ∧ runT tab 0 w = s ∧ runT tab' 0 w = s
theorem Both.symm {s : Int} (h : Both m tab tab' s) : Both m tab' tab s := let ⟨w, a, b, c⟩ := h; ⟨w, a, c, b⟩
theorem wd_app {u w : List Nat} (hu : Wd m u) (hw : Wd m w) : Wd m (u ++ w) := fun x hx => (List.mem_append.mp hx).elim (hu x) (hw x)
theorem wd_one {j : Nat} (hj : j < m) : Wd m [j] := fun x hx => by rw [List.mem_singleton.mp hx]; exact hj
/-- the goals of two rows -/
theorem goal_eq (h' : IsM m tab' good') (e : Same m tab good tab' good') {g g' : Int} {w : List Nat} (hw : Wd m w) (hg : runT tab 0 w = g) (hg' : runT tab' 0 w = g') (hR : Both m tab tab' g) : g' = g := by
  obtain ⟨v, hv, v1, v2⟩ := hR
  have i1 : InR tab' g' := by rw [← hg']; exact run_in h'.ok h'.ne hw
  have i2 : InR tab' g := by rw [← v2]; exact run_in h'.ok h'.ne hv
  refine h'.parted _ _ i1 i2 fun u hu q => q ?_
  show runT tab' g' u ∈ good' ↔ runT tab' g u ∈ good'
  rw [← hg', ← v2, ← run_app, ← run_app, ← e _ (wd_app hw hu), ← e _ (wd_app hv hu), run_app, run_app, hg, v1]
theorem row_eq (h : IsM m tab good) (h' : IsM m tab' good') (e : Same m tab good tab' good') {a : Int} (ha : InR tab a) (ha' : InR tab' a) (hR : Both m tab tab' a) : ∀ (q q' : List Int) (c : Int) (j : Nat),
    (pyIx tab a).drop j = q → (pyIx tab' a).drop j = q' → rowOk c q → rowOk c q' → (∀ s, 0 ≤ s → s < c → Both m tab tab' s) → q = q' ∧ ∀ s, 0 ≤ s → s < rowC c q → Both m tab tab' s := by
  have l1 : (pyIx tab a).length = m := h.ok.len _ (pyIx_mem ha.1 ha.2)
  have l2 : (pyIx tab' a).length = m := h'.ok.len _ (pyIx_mem ha'.1 ha'.2)
  intro q
  induction q with
  | nil =>
    intro q' c j d d' _ _ hs
    have : m ≤ j := by rw [← l1]; exact List.drop_eq_nil_iff.mp d
    have : q' = [] := by rw [← d']; exact List.drop_eq_nil_iff.mpr (by omega)
    exact ⟨this.symm, hs⟩
  | cons g q ih =>
    intro q' c j d d' hc hc' hs
    have hj : j < m := by
      rcases Nat.lt_or_ge j m with hj | hj
      · exact hj
      · rw [List.drop_eq_nil_iff.mpr (by omega)] at d; cases d
    have r1 := row_get h.ok ha hj
    have r2 := row_get h'.ok ha' hj
    have d1 : (pyIx tab a).drop j = stp tab a j :: (pyIx tab a).drop (j + 1) := by
      obtain ⟨hx, ex⟩ := List.getElem?_eq_some_iff.mp r1
      rw [List.drop_eq_getElem_cons hx, ex]
    have d2 : (pyIx tab' a).drop j = stp tab' a j :: (pyIx tab' a).drop (j + 1) := by
      obtain ⟨hx, ex⟩ := List.getElem?_eq_some_iff.mp r2
      rw [List.drop_eq_getElem_cons hx, ex]
    rw [d1] at d
    rw [d2] at d'
    injection d with eg eq
    subst d'
    obtain ⟨c1, c2, c3⟩ := hc
    obtain ⟨c1', c2', c3'⟩ := hc'
    obtain ⟨w, hw, w1, w2⟩ := hR
    have hw' : Wd m (w ++ [j]) := wd_app hw (wd_one hj)
    have x1 : runT tab 0 (w ++ [j]) = g := by rw [run_app, w1, ← eg]; rfl
    have x2 : runT tab' 0 (w ++ [j]) = stp tab' a j := by rw [run_app, w2]; rfl
    have key : stp tab' a j = g := by
      rcases Int.lt_or_le g c with k | k
      · exact goal_eq h' e hw' x1 x2 (hs g c1 k)
      · rcases Int.lt_or_le (stp tab' a j) c with k' | k'
        · exact (goal_eq h e.symm hw' x2 x1 (hs _ c1' k').symm).symm
        · omega
    rw [key] at x2 c3' ⊢
    have hs2 : ∀ s, 0 ≤ s → s < (if g = c then c + 1 else c) → Both m tab tab' s := fun s s0 s1 => by
      rcases Int.lt_or_le s c with k | k
      · exact hs s s0 k
      · have : s = g := by split at s1 <;> omega
        rw [this]
        exact ⟨_, hw', x1, x2⟩
    obtain ⟨y1, y2⟩ := ih _ _ (j + 1) eq rfl c3 c3' hs2
    exact ⟨by rw [← y1], y2⟩
theorem tab_eq (h : IsM m tab good) (h' : IsM m tab' good') (e : Same m tab good tab' good') : ∀ (q q' : Tab) (a : Nat) (c : Int), tab.drop a = q → tab'.drop a = q' → CanTo a c q tab.length → CanTo a c q' tab'.length →
    (∀ s, 0 ≤ s → s < c → Both m tab tab' s) → q = q' ∧ ∀ s, 0 ≤ s → s < (tab.length : Int) → Both m tab tab' s := by
  intro q
  induction q with
  | nil =>
    intro q' a c d d' hc hc' hs
    have hc : c = (tab.length : Int) := hc
    have hl : tab.length ≤ a := List.drop_eq_nil_iff.mp d
    cases q' with
    | nil => exact ⟨rfl, fun s s0 s1 => hs s s0 (by omega)⟩
    | cons r' q' =>
      have := hc'.1
      omega
  | cons r q ih =>
    intro q' a c d d' hc hc' hs
    obtain ⟨c1, c2, c3⟩ := hc
    have ha : a < tab.length := by
      rcases Nat.lt_or_ge a tab.length with k | k
      · exact k
      · rw [List.drop_eq_nil_iff.mpr k] at d; cases d
    cases q' with
    | nil =>
      have hc' : c = (tab'.length : Int) := hc'
      have hl : tab'.length ≤ a := List.drop_eq_nil_iff.mp d'
      omega
    | cons r' q' =>
      obtain ⟨c1', c2', c3'⟩ := hc'
      have ha' : a < tab'.length := by
        rcases Nat.lt_or_ge a tab'.length with k | k
        · exact k
        · rw [List.drop_eq_nil_iff.mpr k] at d'; cases d'
      have p1 : pyIx tab (a : Int) = r := by
        obtain ⟨y, y1, y2⟩ := pyIx_nat (xs := tab) (i := (a : Int)) (by omega) (by omega)
        rw [y1]
        have := List.getElem?_drop (xs := tab) (i := a) (j := 0)
        rw [d, Nat.add_zero] at this
        rw [show ((a : Int).toNat) = a by omega, ← this] at y2
        exact (Option.some.inj y2).symm
      have p2 : pyIx tab' (a : Int) = r' := by
        obtain ⟨y, y1, y2⟩ := pyIx_nat (xs := tab') (i := (a : Int)) (by omega) (by omega)
        rw [y1]
        have := List.getElem?_drop (xs := tab') (i := a) (j := 0)
        rw [d', Nat.add_zero] at this
        rw [show ((a : Int).toNat) = a by omega, ← this] at y2
        exact (Option.some.inj y2).symm
      obtain ⟨y1, y2⟩ := row_eq h h' e (inr_of ha) (inr_of ha') (hs _ (by omega) c1) r r' c 0 (by rw [p1]; rfl) (by rw [p2]; rfl) c2 c2' hs
      subst y1
      have dd : tab.drop (a + 1) = q := by rw [← List.drop_drop, d]; rfl
      have dd' : tab'.drop (a + 1) = q' := by rw [← List.drop_drop, d']; rfl
      obtain ⟨z1, z2⟩ := ih q' (a + 1) (rowC c r) dd dd' (by rw [show ((a + 1 : Nat) : Int) = (a : Int) + 1 by omega]; exact c3) (by rw [show ((a + 1 : Nat) : Int) = (a : Int) + 1 by omega]; exact c3') y2
      exact ⟨by rw [z1], z2⟩
/-- one least form for one set of rows let by -/
theorem IsM.uniq (h : IsM m tab good) (h' : IsM m tab' good') (e : Same m tab good tab' good') : tab = tab' ∧ good = good' := by
  obtain ⟨h1, h2⟩ := tab_eq h h' e tab tab' 0 1 rfl rfl h.can h'.can fun s s0 s1 => ⟨[], fun _ hx => (by cases hx), by show (0 : Int) = s; omega, by show (0 : Int) = s; omega⟩
  subst h1
  refine ⟨rfl, ?_⟩
  rw [h.good, h'.good]
  refine List.filter_congr fun k hk => ?_
  obtain ⟨i, hi, rfl⟩ := List.mem_map.mp hk
  have hi := List.mem_range.mp hi
  obtain ⟨w, hw, w1, w2⟩ := h2 (0 + (i : Int)) (by omega) (by omega)
  rw [decide_eq_decide]
  have := e w hw
  rwa [w1] at this
end
/-! ### the making of a least form -/
section
variable {m : Nat} {tab : Tab} {good cs : List Int}
/-- the place of the state that is alike -/
def ixF (cs sts : List Int) (g : Int) : Int := (((sts.map (pyIx cs)).idxOf (pyIx cs g) : Nat) : Int)
theorem ixF_app {sts : List Int} {g x : Int} (h : pyIx cs x ∈ sts.map (pyIx cs)) : ixF cs (sts ++ [g]) x = ixF cs sts x := by
  unfold ixF
  rw [List.map_append, List.idxOf_append, if_pos h]
theorem ixF_new {sts : List Int} {g : Int} (h : pyIx cs g ∉ sts.map (pyIx cs)) : ixF cs (sts ++ [g]) g = ((sts.length : Nat) : Int) := by
  unfold ixF
  rw [List.map_append, List.idxOf_append, if_neg h, List.map_cons, List.map_nil, List.idxOf_cons_self, List.length_map, Nat.zero_add]
theorem ixF_lt {sts : List Int} {g : Int} (h : pyIx cs g ∈ sts.map (pyIx cs)) : 0 ≤ ixF cs sts g ∧ ixF cs sts g < (sts.length : Int) := by
  have := List.idxOf_lt_length_iff.mpr h
  rw [List.length_map] at this
  unfold ixF
  omega
structure LF (tab : Tab) (cs : List Int) (sts : List Int) (nt : Tab) : Prop where
  hd : sts[0]? = some 0
  inr : ∀ s ∈ sts, InR tab s
  nd : (sts.map (pyIx cs)).Nodup
  le : nt.length ≤ sts.length
  can : CanTo 0 1 nt sts.length
  row : ∀ (a : Nat) (r : List Int), nt[a]? = some r → ∃ s : Int, sts[a]? = some s ∧ r = (pyIx tab s).map (ixF cs sts) ∧ ∀ g ∈ pyIx tab s, pyIx cs g ∈ sts.map (pyIx cs)
structure LR (tab : Tab) (cs : List Int) (sts : List Int) (nt : Tab) (s : Int) (j : Nat) (steps : List Int) : Prop where
  hd : sts[0]? = some 0
  inr : ∀ s ∈ sts, InR tab s
  nd : (sts.map (pyIx cs)).Nodup
  can : ∃ c : Int, CanTo 0 1 nt c ∧ (nt.length : Int) < c ∧ rowOk c steps ∧ rowC c steps = sts.length
  row : ∀ (a : Nat) (r : List Int), nt[a]? = some r → ∃ s : Int, sts[a]? = some s ∧ r = (pyIx tab s).map (ixF cs sts) ∧ ∀ g ∈ pyIx tab s, pyIx cs g ∈ sts.map (pyIx cs)
  st : sts[nt.length]? = some s
  steps : steps = ((pyIx tab s).take j).map (ixF cs sts)
  mem : ∀ g ∈ (pyIx tab s).take j, pyIx cs g ∈ sts.map (pyIx cs)
theorem LF.start (h : InR tab 0) : LF tab cs [0] [] where
  hd := rfl
  inr := fun s hs => by rw [List.mem_singleton.mp hs]; exact h
  nd := by simp
  le := Nat.zero_le _
  can := rfl
  row := fun a r e => by simp at e
theorem LF.begin {sts : List Int} {nt : Tab} (h : LF tab cs sts nt) {s : Int} (hs : sts[nt.length]? = some s) : LR tab cs sts nt s 0 [] where
  hd := h.hd
  inr := h.inr
  nd := h.nd
  can := ⟨sts.length, h.can, by have := (List.getElem?_eq_some_iff.mp hs).1; omega, trivial, rfl⟩
  row := h.row
  st := hs
  steps := by rw [List.take_zero]; rfl
  mem := fun g hg => by rw [List.take_zero] at hg; cases hg
theorem LR.old {sts : List Int} {nt : Tab} {s : Int} {j : Nat} {steps : List Int} (h : LR tab cs sts nt s j steps) {g : Int} (hg : (pyIx tab s)[j]? = some g) (hm : pyIx cs g ∈ sts.map (pyIx cs)) : LR tab cs sts nt s (j + 1) (steps ++ [ixF cs sts g]) where
  hd := h.hd
  inr := h.inr
  nd := h.nd
  can := by
    obtain ⟨c, c1, c2, c3, c4⟩ := h.can
    have hl := ixF_lt hm
    exact ⟨c, c1, c2, (rowOk_snoc _ _ _).mpr ⟨c3, hl.1, by omega⟩, by rw [rowC_snoc, if_neg (by omega), c4]⟩
  row := h.row
  st := h.st
  steps := by rw [take_step hg, List.map_append, h.steps]; rfl
  mem := fun x hx => by
    rw [take_step hg] at hx
    rcases List.mem_append.mp hx with q | q
    · exact h.mem x q
    · rw [List.mem_singleton.mp q]; exact hm
theorem LR.new {sts : List Int} {nt : Tab} {s : Int} {j : Nat} {steps : List Int} (h : LR tab cs sts nt s j steps) {g : Int} (hg : (pyIx tab s)[j]? = some g) (hi : InR tab g) (hm : pyIx cs g ∉ sts.map (pyIx cs)) : LR tab cs (sts ++ [g]) nt s (j + 1) (steps ++ [((sts.length : Nat) : Int)]) where
  hd := by
    have := (List.getElem?_eq_some_iff.mp h.hd).1
    rw [List.getElem?_append_left this]
    exact h.hd
  inr := fun x hx => by
    rcases List.mem_append.mp hx with q | q
    · exact h.inr x q
    · rw [List.mem_singleton.mp q]; exact hi
  nd := by
    rw [List.map_append]
    refine List.nodup_append.mpr ⟨h.nd, by simp, fun a ha b hb e => hm ?_⟩
    have : b = pyIx cs g := by simpa using hb
    rw [← this, ← e]
    exact ha
  can := by
    obtain ⟨c, c1, c2, c3, c4⟩ := h.can
    exact ⟨c, c1, c2, (rowOk_snoc _ _ _).mpr ⟨c3, by omega, by omega⟩, by rw [rowC_snoc, if_pos c4.symm, c4, List.length_append]; rfl⟩
  row := fun a r e => by
    obtain ⟨x, x1, x2, x3⟩ := h.row a r e
    refine ⟨x, ?_, ?_, fun y hy => ?_⟩
    · rw [List.getElem?_append_left (List.getElem?_eq_some_iff.mp x1).1]
      exact x1
    · rw [x2]
      exact List.map_congr_left fun y hy => (ixF_app (x3 y hy)).symm
    · rw [List.map_append]
      exact List.mem_append_left _ (x3 y hy)
  st := by
    rw [List.getElem?_append_left (List.getElem?_eq_some_iff.mp h.st).1]
    exact h.st
  steps := by
    rw [take_step hg, List.map_append, h.steps]
    congr 1
    · exact List.map_congr_left fun y hy => (ixF_app (h.mem y hy)).symm
    · rw [List.map_cons, List.map_nil, ixF_new hm]
  mem := fun x hx => by
    rw [List.map_append]
    rw [take_step hg] at hx
    rcases List.mem_append.mp hx with q | q
    · exact List.mem_append_left _ (h.mem x q)
    · rw [List.mem_singleton.mp q]
      exact List.mem_append_right _ (List.mem_singleton.mpr rfl)
theorem LR.done {sts : List Int} {nt : Tab} {s : Int} {j : Nat} {steps : List Int} (h : LR tab cs sts nt s j steps) (hj : (pyIx tab s).length ≤ j) : LF tab cs sts (nt ++ [steps]) where
  hd := h.hd
  inr := h.inr
  nd := h.nd
  le := by
    have := (List.getElem?_eq_some_iff.mp h.st).1
    rw [List.length_append]
    exact this
  can := by
    obtain ⟨c, c1, c2, c3, c4⟩ := h.can
    rw [← c4]
    exact c1.snoc (by omega) c3
  row := fun a r e => by
    rcases Nat.lt_or_ge a nt.length with k | k
    · rw [List.getElem?_append_left k] at e
      exact h.row a r e
    · rw [List.getElem?_append_right k] at e
      have : a - nt.length = 0 := by
        have := (List.getElem?_eq_some_iff.mp e).1
        simp at this
        omega
      rw [this] at e
      have e : steps = r := by simpa using e
      have : a = nt.length := by omega
      subst this
      refine ⟨s, h.st, ?_, fun g hg => h.mem g (by rw [List.take_of_length_le hj]; exact hg)⟩
      rw [← e, h.steps, List.take_of_length_le hj]
theorem LF.few {sts : List Int} {nt : Tab} (h : LF tab cs sts nt) : sts.length ≤ tab.length := by
  have nd : sts.Nodup := by
    have := h.nd
    unfold List.Nodup at this ⊢
    rw [List.pairwise_map] at this
    exact this.imp fun k e => k (by rw [e])
  have := nodup_sub_len (ys := rng 0 (tab.length : Int)) nd fun s hs => rng_in (h.inr s hs).1 (h.inr s hs).2
  rw [rng_length] at this
  omega
theorem LR.few {sts : List Int} {nt : Tab} {s : Int} {j : Nat} {steps : List Int} (h : LR tab cs sts nt s j steps) : sts.length ≤ tab.length := by
  have nd : sts.Nodup := by
    have := h.nd
    unfold List.Nodup at this ⊢
    rw [List.pairwise_map] at this
    exact this.imp fun k e => k (by rw [e])
  have := nodup_sub_len (ys := rng 0 (tab.length : Int)) nd fun s hs => rng_in (h.inr s hs).1 (h.inr s hs).2
  rw [rng_length] at this
  omega
/-- the good ones of a form -/
def goodF (sts good : List Int) : List Int := (rng 0 (sts.length : Int)).filter fun k => decide (pyIx sts k ∈ good)
theorem rng_mem_iff {n : Nat} {k : Int} : k ∈ rng 0 (n : Int) ↔ 0 ≤ k ∧ k < n := by
  constructor
  · intro h
    obtain ⟨i, hi, rfl⟩ := List.mem_map.mp h
    have := List.mem_range.mp hi
    omega
  · exact fun h => rng_in h.1 h.2
theorem goodF_mem {sts : List Int} {k : Int} : k ∈ goodF sts good ↔ (0 ≤ k ∧ k < (sts.length : Int)) ∧ pyIx sts k ∈ good := by
  unfold goodF
  rw [List.mem_filter, rng_mem_iff, decide_eq_true_iff]
theorem LF.done {sts : List Int} {nt : Tab} (hT : TOk m tab) (hC : ColA m tab good cs) (h : LF tab cs sts nt) (hl : sts.length ≤ nt.length) : IsM m nt (goodF sts good) ∧ Same m tab good nt (goodF sts good) := by
  have hlen : nt.length = sts.length := Nat.le_antisymm h.le hl
  have row : ∀ a, InR nt a → pyIx nt a = (pyIx tab (pyIx sts a)).map (ixF cs sts) ∧ (∀ g ∈ pyIx tab (pyIx sts a), pyIx cs g ∈ sts.map (pyIx cs)) ∧ InR tab (pyIx sts a) := fun a ha => by
    obtain ⟨r, r1, r2⟩ := pyIx_nat ha.1 ha.2
    obtain ⟨s, s1, s2, s3⟩ := h.row _ _ r2
    obtain ⟨y, y1, y2⟩ := pyIx_nat (xs := sts) ha.1 (by rw [← hlen]; exact ha.2)
    have e : pyIx sts a = s := by
      rw [s1] at y2
      rw [y1]
      exact (Option.some.inj y2).symm
    rw [e, r1]
    exact ⟨s2, s3, h.inr s (List.mem_of_getElem? s1)⟩
  have ok : TOk m nt := ⟨fun r hr => by
    obtain ⟨a, ha, e⟩ := List.getElem_of_mem hr
    obtain ⟨s, s1, s2, s3⟩ := h.row a r (by rw [List.getElem?_eq_getElem ha, e])
    have hs := h.inr s (List.mem_of_getElem? s1)
    rw [s2, List.length_map]
    exact hT.len _ (pyIx_mem hs.1 hs.2), fun r hr g hg => by
    obtain ⟨a, ha, e⟩ := List.getElem_of_mem hr
    obtain ⟨s, s1, s2, s3⟩ := h.row a r (by rw [List.getElem?_eq_getElem ha, e])
    rw [s2] at hg
    obtain ⟨x, hx, rfl⟩ := List.mem_map.mp hg
    have := ixF_lt (s3 x hx)
    exact ⟨this.1, by rw [hlen]; exact this.2⟩⟩
  have colI : ∀ g, pyIx cs g ∈ sts.map (pyIx cs) → pyIx cs (pyIx sts (ixF cs sts g)) = pyIx cs g := fun g hg => by
    have hlt := ixF_lt hg
    rw [← pyIx_map (pyIx cs) hlt.1 hlt.2]
    obtain ⟨y, y1, y2⟩ := pyIx_nat (xs := sts.map (pyIx cs)) (i := ixF cs sts g) hlt.1 (by rw [List.length_map]; exact hlt.2)
    rw [y1]
    have hi := List.idxOf_lt_length_iff.mpr hg
    rw [show (ixF cs sts g).toNat = (sts.map (pyIx cs)).idxOf (pyIx cs g) by unfold ixF; omega, List.getElem?_eq_getElem hi, List.getElem_idxOf hi] at y2
    exact (Option.some.inj y2).symm
  have step : ∀ a j, InR nt a → j < m → pyIx cs (pyIx sts (stp nt a j)) = pyIx cs (stp tab (pyIx sts a) j) := fun a j ha hj => by
    obtain ⟨r1, r2, r3⟩ := row a ha
    have hj2 : (j : Int) < ((pyIx tab (pyIx sts a)).length : Int) := by rw [hT.len _ (pyIx_mem r3.1 r3.2)]; omega
    have e : stp nt a j = ixF cs sts (stp tab (pyIx sts a) j) := by
      unfold stp
      rw [r1, pyIx_map _ (by omega) hj2]
    rw [e]
    exact colI _ (r2 _ (pyIx_mem (by omega) hj2))
  have run : ∀ w, Wd m w → ∀ a s, InR nt a → InR tab s → pyIx cs (pyIx sts a) = pyIx cs s → pyIx cs (pyIx sts (runT nt a w)) = pyIx cs (runT tab s w) := fun w => by
    induction w with
    | nil => exact fun _ a s _ _ e => e
    | cons j w ih =>
      intro hw a s ha hs e
      have hj := hw j List.mem_cons_self
      have ra := (row a ha).2.2
      refine ih (fun k hk => hw k (List.mem_cons_of_mem _ hk)) (stp nt a j) (stp tab s j) (stp_in ok ha hj) (stp_in hT hs hj) ?_
      rw [step a j ha hj]
      exact (hC.iff _ _ (stp_in hT ra hj) (stp_in hT hs hj)).mpr (((hC.iff _ _ ra hs).mp e).step hj)
  have gd : ∀ w, Wd m w → ∀ a s, InR nt a → InR tab s → pyIx cs (pyIx sts a) = pyIx cs s → (runT nt a w ∈ goodF sts good ↔ runT tab s w ∈ good) := fun w hw a s ha hs e => by
    have i1 := run_in ok ha hw
    rw [goodF_mem, ← hlen]
    have := ((hC.iff _ _ (row _ i1).2.2 (run_in hT hs hw)).mp (run w hw a s ha hs e)).good_iff
    exact ⟨fun q => this.mp q.2, fun q => ⟨i1, this.mpr q⟩⟩
  have z0 : InR tab 0 := h.inr 0 (List.mem_of_getElem? h.hd)
  have n0 : InR nt 0 := ⟨Int.le_refl 0, by have := (List.getElem?_eq_some_iff.mp h.hd).1; omega⟩
  have zz : pyIx sts 0 = 0 := by
    obtain ⟨y, y1, y2⟩ := pyIx_nat (xs := sts) (i := 0) (by omega) (by rw [← hlen]; exact n0.2)
    rw [show ((0 : Int).toNat) = 0 by rfl, h.hd] at y2
    rw [y1]
    exact (Option.some.inj y2).symm
  refine ⟨⟨ok, by rw [hlen]; exact h.can, fun s t hs ht q => ?_, ?_⟩, fun w hw => (gd w hw 0 0 n0 z0 (by rw [zz])).symm⟩
  · have rs := (row s hs).2.2
    have rt := (row t ht).2.2
    have al : Al m tab good (pyIx sts s) (pyIx sts t) := fun w hw p => q w hw fun c => p ((gd w hw s _ hs rs rfl).symm.trans (c.trans (gd w hw t _ ht rt rfl)))
    have e := (hC.iff _ _ rs rt).mpr al
    have ls : s < (sts.length : Int) := by rw [← hlen]; exact hs.2
    have lt : t < (sts.length : Int) := by rw [← hlen]; exact ht.2
    rw [← pyIx_map (pyIx cs) hs.1 ls, ← pyIx_map (pyIx cs) ht.1 lt] at e
    obtain ⟨y, y1, y2⟩ := pyIx_nat (xs := sts.map (pyIx cs)) hs.1 (by rw [List.length_map]; exact ls)
    obtain ⟨z, z1, z2⟩ := pyIx_nat (xs := sts.map (pyIx cs)) ht.1 (by rw [List.length_map]; exact lt)
    rw [y1, z1] at e
    subst e
    have hy := (List.getElem?_eq_some_iff.mp y2).1
    have := (List.getElem?_inj hy h.nd).mp (y2.trans z2.symm)
    have := hs.1
    have := ht.1
    omega
  · rw [hlen]
    show goodF sts good = _
    conv => lhs; unfold goodF
    refine List.filter_congr fun k hk => ?_
    rw [decide_eq_decide, goodF_mem]
    exact ⟨fun q => ⟨rng_mem_iff.mp hk, q⟩, fun q => q.2⟩
end
/-- the signs of one round: a state's colour and those of its goals -/
theorem enumF_map {β : Type} [Inhabited β] {f : Int × List Int → β} {tab : Tab} {s : Int} (hs : InR tab s) : pyIx ((enumF tab).map f) s = f (s, pyIx tab s) := by
  have hl : s < (((enumF tab).map f).length : Int) := by rw [List.length_map, enumF_length]; exact hs.2
  obtain ⟨y, y1, y2⟩ := pyIx_nat (xs := (enumF tab).map f) hs.1 hl
  obtain ⟨r, r1, r2⟩ := pyIx_nat (xs := tab) hs.1 hs.2
  rw [List.getElem?_map] at y2
  obtain ⟨p, p1, p2⟩ := Option.map_eq_some_iff.mp y2
  obtain ⟨q1, q2⟩ := enumF_get p1
  rw [y1, r1, ← p2]
  rw [r2] at q2
  have e1 : p.1 = s := by rw [q1]; have := hs.1; omega
  have e2 : p.2 = r := (Option.some.inj q2).symm
  rw [← e1, ← e2]
theorem Same.refl {m : Nat} {tab : Tab} {good : List Int} : Same m tab good tab good := fun _ _ => Iff.rfl
theorem Same.trans {m : Nat} {t1 t2 t3 : Tab} {g1 g2 g3 : List Int} (h : Same m t1 g1 t2 g2) (h' : Same m t2 g2 t3 g3) : Same m t1 g1 t3 g3 := fun w hw => (h w hw).trans (h' w hw)
/-- each state of a least form has a row of its own, for canonical tables: gone through, row by row -/
structure CanAt (tab : Tab) (i : Nat) (c : Int) : Prop where
  rest : CanTo (i : Int) c (tab.drop i) tab.length
theorem CanAt.start {m : Nat} {tab : Tab} {good : List Int} (h : IsM m tab good) : CanAt tab 0 1 := ⟨h.can⟩
theorem CanAt.row {tab : Tab} {i : Nat} {c : Int} (h : CanAt tab i c) {r : List Int} (hr : tab[i]? = some r) : (i : Int) < c ∧ rowOk c r ∧ CanAt tab (i + 1) (rowC c r) := by
  obtain ⟨hx, ex⟩ := List.getElem?_eq_some_iff.mp hr
  have e := h.rest
  rw [List.drop_eq_getElem_cons hx, ex] at e
  exact ⟨e.1, e.2.1, ⟨e.2.2⟩⟩
theorem CanAt.done {tab : Tab} {c : Int} (h : CanAt tab tab.length c) : c = tab.length := by
  have e := h.rest
  rw [List.drop_length] at e
  exact e
theorem rowOk_at : ∀ {r : List Int} {c : Int} {j : Nat} {g : Int}, rowOk c r → r[j]? = some g → 0 ≤ g ∧ g ≤ rowC c (r.take j)
  | [], _, _, _, _, h => by cases h
  | x :: r, c, 0, g, ⟨h1, h2, _⟩, h => by
    have : x = g := by simpa using h
    subst this
    exact ⟨h1, h2⟩
  | x :: r, c, j + 1, g, ⟨_, _, h3⟩, h => rowOk_at (j := j) h3 (by rw [List.getElem?_cons_succ] at h; exact h)
theorem dget_mem {κ α : Type} [DecidableEq κ] {kvs : List (κ × α)} {x : κ} : (dget kvs x).isSome = decide (x ∈ kvs.map (·.1)) := by
  unfold dget
  rw [Option.isSome_map]
  by_cases h : x ∈ kvs.map (·.1)
  · obtain ⟨p, hp, e⟩ := List.mem_map.mp h
    rw [decide_eq_true h, List.find?_isSome]
    exact ⟨p, hp, decide_eq_true e⟩
  · rw [decide_eq_false h, List.find?_eq_none.mpr fun p hp c => h (List.mem_map.mpr ⟨p, hp, of_decide_eq_true c⟩)]
    rfl
theorem dget_yes {κ α : Type} [DecidableEq κ] {kvs : List (κ × α)} {x : κ} (h : x ∈ kvs.map (·.1)) : (dget kvs x).isSome = true := dget_mem.trans (decide_eq_true h)
theorem rng_eqI {n : Nat} {i : Nat} (h : i < n) : (rng 0 (n : Int))[i]? = some (i : Int) := by
  unfold rng
  rw [List.getElem?_map, List.getElem?_range (by omega)]
  show some (0 + (i : Int)) = _
  rw [Int.zero_add]
theorem pyIx_get {α : Type} [Inhabited α] {xs : List α} {i : Nat} {x : α} (h : xs[i]? = some x) : pyIx xs (i : Int) = x := by
  have hi := (List.getElem?_eq_some_iff.mp h).1
  obtain ⟨y, y1, y2⟩ := pyIx_nat (xs := xs) (i := (i : Int)) (by omega) (by omega)
  rw [show ((i : Int).toNat) = i by omega, h] at y2
  rw [y1]
  exact (Option.some.inj y2).symm
theorem nodup_pyIx {r : List Int} (h : ∀ s t : Nat, s < r.length → t < r.length → pyIx r (s : Int) = pyIx r (t : Int) → s = t) : r.Nodup := by
  refine List.pairwise_iff_getElem.mpr fun i j hi hj hij e => ?_
  have e1 : pyIx r (i : Int) = r[i] := pyIx_get (List.getElem?_eq_getElem hi)
  have e2 : pyIx r (j : Int) = r[j] := pyIx_get (List.getElem?_eq_getElem hj)
  have := h i j hi hj (by rw [e1, e2, e])
  omega
/-- the colours of a least form are all unlike -/
theorem IsM.colours {m : Nat} {tab : Tab} {good cs : List Int} (h : IsM m tab good) (hC : ColA m tab good cs) : (sortI1 cs).length = tab.length := by
  have nd : cs.Nodup := nodup_pyIx fun s t hs ht e => by
    rw [hC.len] at hs ht
    have := h.parted _ _ (inr_of hs) (inr_of ht) ((hC.iff _ _ (inr_of hs) (inr_of ht)).mp e)
    omega
  have p : (sortI1 cs).Perm cs := perm_of_mem ((List.mergeSort_perm _ _).nodup_iff.mpr (nodup_eraseDups cs)) nd fun x => sortI1_mem
  rw [p.length_eq, hC.len]
theorem pairs_few {ks : List (Int × Int)} (hn : ks.Nodup) (h : ∀ p ∈ ks, (0 ≤ p.1 ∧ p.1 < 24) ∧ 0 ≤ p.2 ∧ p.2 < 24) : ks.length ≤ 576 := by
  have := nodup_sub_len (ys := (rng 0 ((24 : Nat) : Int)).flatMap fun x => (rng 0 ((24 : Nat) : Int)).map fun y => (x, y)) hn fun p hp => by
    obtain ⟨⟨a, b⟩, c, d⟩ := h p hp
    exact List.mem_flatMap.mpr ⟨p.1, rng_in a b, List.mem_map.mpr ⟨p.2, rng_in c d, rfl⟩⟩
  rw [all_len 24] at this
  omega
/-- pairs to which one word leads two tables -/
def Led (m : Nat) (t1 t2 : Tab) (p : Int × Int) : Prop := ∃ w, Wd m w ∧ p = (runT t1 0 w, runT t2 0 w)
structure Gone (m : Nat) (t1 t2 : Tab) (left : List (Int × Int)) (come : List ((Int × Int) × Bool)) : Prop where
  left : ∀ p ∈ left, Led m t1 t2 p
  nd : (come.map (·.1)).Nodup
  inr : ∀ p ∈ come.map (·.1), InR t1 p.1 ∧ InR t2 p.2
theorem Gone.start {m : Nat} {t1 t2 : Tab} (h1 : InR t1 0) (h2 : InR t2 0) : Gone m t1 t2 [(0, 0)] [((0, 0), true)] where
  left := fun p hp => by rw [List.mem_singleton.mp hp]; exact ⟨[], fun _ hx => (by cases hx), rfl⟩
  nd := by simp
  inr := fun p hp => by
    have hp : p ∈ [((0 : Int), (0 : Int))] := hp
    rw [List.mem_singleton.mp hp]; exact ⟨h1, h2⟩
theorem Gone.few {m : Nat} {t1 t2 : Tab} {left : List (Int × Int)} {come : List ((Int × Int) × Bool)} (h : Gone m t1 t2 left come) (l1 : t1.length ≤ 24) (l2 : t2.length ≤ 24) : come.length ≤ 576 := by
  have := pairs_few h.nd fun p hp => by
    obtain ⟨a, b⟩ := h.inr p hp
    have a2 := a.2
    have b2 := b.2
    exact ⟨⟨a.1, by omega⟩, b.1, by omega⟩
  rw [List.length_map] at this
  exact this
theorem Gone.pop {m : Nat} {t1 t2 : Tab} {left : List (Int × Int)} {come : List ((Int × Int) × Bool)} (h : Gone m t1 t2 left come) : Gone m t1 t2 left.dropLast come := ⟨fun p hp => h.left p (List.dropLast_subset _ hp), h.nd, h.inr⟩
theorem Gone.push {m : Nat} {t1 t2 : Tab} (h1 : TOk m t1) (h2 : TOk m t2) (n1 : InR t1 0) (n2 : InR t2 0) {left : List (Int × Int)} {come : List ((Int × Int) × Bool)} (h : Gone m t1 t2 left come) {p : Int × Int} (hp : Led m t1 t2 p) (hn : (dget come p).isSome = false) : dput come p true = come ++ [(p, true)] ∧ Gone m t1 t2 (left ++ [p]) (come ++ [(p, true)]) := by
  have hx : p ∉ come.map (·.1) := fun c => by
    have := dget_yes c
    rw [hn] at this
    cases this
  refine ⟨dput_keyed hx, fun q hq => ?_, ?_, fun q hq => ?_⟩
  · rcases List.mem_append.mp hq with c | c
    · exact h.left q c
    · rw [List.mem_singleton.mp c]; exact hp
  · rw [List.map_append]
    refine List.nodup_append.mpr ⟨h.nd, by simp, fun a ha b hb e => hx ?_⟩
    have : b = p := by simpa using hb
    rw [← this, ← e]
    exact ha
  · rw [List.map_append] at hq
    rcases List.mem_append.mp hq with c | c
    · exact h.inr q c
    · have : q = p := by simpa using c
      obtain ⟨w, hw, e⟩ := hp
      rw [this, e]
      exact ⟨run_in h1 n1 hw, run_in h2 n2 hw⟩
theorem Led.step {m : Nat} {t1 t2 : Tab} (h1 : TOk m t1) (h2 : TOk m t2) (n1 : InR t1 0) (n2 : InR t2 0) {p q : Int × Int} (h : Led m t1 t2 p) {i : Nat} (hq : ((pyIx t1 p.1).zip (pyIx t2 p.2))[i]? = some q) : Led m t1 t2 q := by
  obtain ⟨w, hw, e⟩ := h
  have r1 : InR t1 p.1 := by rw [e]; exact run_in h1 n1 hw
  have r2 : InR t2 p.2 := by rw [e]; exact run_in h2 n2 hw
  obtain ⟨q1, q2⟩ := List.getElem?_zip_eq_some.mp hq
  have hi : i < m := by
    have := (List.getElem?_eq_some_iff.mp q1).1
    rw [h1.len _ (pyIx_mem r1.1 r1.2)] at this
    exact this
  rw [row_get h1 r1 hi] at q1
  rw [row_get h2 r2 hi] at q2
  have q1 := Option.some.inj q1
  have q2 := Option.some.inj q2
  refine ⟨w ++ [i], wd_app hw (wd_one hi), ?_⟩
  rw [run_app, run_app]
  have a : p.1 = runT t1 0 w := by rw [e]
  have b : p.2 = runT t2 0 w := by rw [e]
  rw [← a, ← b]
  exact Prod.ext q1.symm q2.symm
open PyProof.Rows L2 in
theorem pyIx_last {α : Type} [Inhabited α] {xs : List α} (h : xs ≠ []) : pyIx xs (-1) ∈ xs := by
  have hl : 0 < xs.length := List.length_pos_iff.mpr h
  unfold pyIx atI
  have e : ixN xs.length (-1) = some (-1 + (xs.length : Int)).toNat := by unfold ixN; rw [if_neg (by decide), if_pos (by omega)]
  have hl2 : (-1 + (xs.length : Int)).toNat < xs.length := by omega
  rw [e]
  show (xs[(-1 + (xs.length : Int)).toNat]?).getD default ∈ xs
  rw [List.getElem?_eq_getElem hl2]
  exact List.getElem_mem hl2
end KM
namespace MD
open PySem PySem.Spec PyProof.Rows L2
/-! ### dict(pairs), d.update(pairs), {k: v} with tuple keys -/
section
variable {X : Cx} {fl : Hp} {B : Hb X.K} {Y : Ec X.K} {ρ : List (Slot X.K)} {cs : List (Cell X.K)} {A R κ α β γ δ μ ν : Type} [DecidableEq κ] {pos : Pos} {rest : List Stmt} {D : Ends} {e : Expr}
/-- {k: v}, k a tuple -/
def tDispT1 (tk tv : TE) : TE := fun σ H Q => ∀ p, H p = none → tk σ (upd H p (.dT [])) fun x H1 => tv σ H1 fun y H2 => H2 p = some (.dT []) ∧ ∃ (b : Addr) (k : List Key), x = .ref b ∧ H2 b = some (.tup (k.map kV)) ∧ Q (.ref p) (upd H2 p (.dT [(k, y)]))
theorem pe_dispT1 {ke ve : Expr} {tk tv : TE} {k : Nat} (hr : Room k X.A) (hk : PE X ke tk) (hv : PE X ve tv) : PE X (.Dict [some ke] [ve] pos) (tDispT1 tk tv) := by
  refine ⟨fun pins s σ H Q I q => ?_⟩
  have hn := I.hok.fresh (Nat.le_refl s.heap.objs.size)
  have I1 := I.laid (a := s.heap.objs.size) (o := .dT []) (h' := s.heap.push { cls := .type "dict", data := .dict #[] }) (t' := s.toks) (fun _ _ q => Heap.get?_push_of_some _ q) (Nat.le_refl _) (dt_empty s.heap I.big)
  rw [arm_eval_Dict, zip_pairTrees [some ke] [ve] X.env pos rfl rfl, dictDisplay_pairs (pairTrees [some ke] [ve] X.env pos) (fun z => by cases z) (Nat.le_of_ble_eq_true rfl)]
  refine wpAny_bind (wpAny_standAt (wpAny_bind (wpAny_subDictH (knd := tupleKind (mixKind X.prog X.w)) (Q := fun d s' => wpAny (model X.prog X.w) X.A (pure (Value.ref d)) _ X.xe s') (show X.A.units < cLine by have := hr.un; omega) (Nat.le_of_ble_eq_true rfl) ?_)))
  refine pairTrees_cons_walk (thn (hk.run pins _ σ _ _ I1 (q _ hn)) fun u s1 ⟨x, H1, I2, rx, q1⟩ => thn (hv.run pins s1 σ H1 _ I2 q1) fun u2 s2 ⟨y, H2, I3, ry, e, b, kk, ex, hb, q2⟩ => pairTrees_nil_walk ?_)
  subst ex
  obtain rfl : u = Value.ref b := rx
  obtain ⟨z, hd, xs, r0, dd⟩ := dt_of I3.hok e
  cases r0
  refine ⟨[(kk, b, u2)], ⟨rfl, rfl, key_of I3.hok hb, True.intro⟩, dd, fun h' tk dd' hs => wpAny_pure ⟨.ref s.heap.objs.size, _, ?_, rfl, q2⟩⟩
  obtain ⟨o, es, ep, h1, h2, h3, h4, _, h5⟩ := dd'
  have nb : b ≠ s.heap.objs.size := fun z => by rw [z, e] at hb; cases hb
  have hKT : L2.KT (upd H2 s.heap.objs.size (.dT [(kk, y)])) [(kk, y)] (storedAllH [] [(kk, b, u2)]) := .cons ⟨rfl, by rw [upd_ne nb]; exact hb, ry⟩ .nil
  exact I3.write (t' := tk) (x := s.heap.objs.size) (e := s.heap.objs.size) (by rw [e]; exact True.intro) (.inl rfl) (fun b u hb q => (hs.2 b hb).trans q) ⟨o, h1⟩ ⟨by rw [sizeLine_eq]; show 1 ≤ _; omega, hd, _, hKT, o, es, ep, h1, h2, h3, h4, h5⟩
theorem sk_setDispT {TK : Ty X.K κ} (kt : KTt TK) {T : Ty X.K α} {ke ve : Expr} {x : κ} {y : α} {P1 P2 : Prop} {i : Nat} {nm : Str} {pos' p2 : Pos} {φ : Addr → List (κ × α) → Prop} {k0 : Nat} (hN : X.N.Nodup) (hr : Room k0 X.A) (hk : PK X ke ρ cs TK x P1) (hv : PK X ve ρ cs T y P2)
    (k : ∀ a z, SK X B Y fl rest (ρ.set i (.val tR a)) (cs ++ [⟨a, cDt kt T z⟩]) D (φ a z)) (hi : X.N[i]? = some nm := by rfl) (hx : Loc X.env.scope nm := by first | exact Or.inl rfl | exact Or.inr rfl)
    (hs : swapsWith (.Dict [some ke] [ve] p2) (some (.Name nm pos')) pos.line X.env = pure false := by rfl) (hf : X.fn nm = true ∨ X.env.scope.names.lookup nm = some .local := by first | exact .inl rfl | exact .inr rfl) :
    SK X B Y fl (.Assign [.Name nm pos'] (.Dict [some ke] [ve] p2) pos :: rest) ρ cs D ((P1 ∧ P2) ∧ ∀ a z, z = [(x, y)] → φ a z) := fun F σ H ok p W tk hx' => by
  refine wb (pss_cons (ps_set hN hi hx (pe_dispT1 hr pe_w pe_w) hs hf) pss_w) ?_
  intro a ha
  have ok0 := ok.c
  obtain ⟨ok1, hF⟩ := okw_put (o := .dT []) ok0.w ha
  refine hk F σ _ ok1 p.1.1 _ fun v1 F1 H1 g1 r1 => ?_
  refine hv F1 σ H1 (ok1.grow g1) p.1.2 _ fun v2 F2 H2 g2 r2 => ?_
  have g := g1.trans g2
  have h2 : H2 a = some (.dT []) := g.hh _ _ upd_same
  have hf2 : F2 a = none := by
    cases q : F2 a with
    | none => rfl
    | some w =>
      have := g.fr a hF (by rw [q]; simp)
      rw [upd_same] at this
      cases this
  obtain ⟨b, eb, hb⟩ := kt.val _ _ _ (TK.mono g2.ff r1)
  have hfh : Same F2 H2 := g.fh
  have hr2 : ReT kt T F2 [(kt.kf x, v2)] [(x, y)] := .cons ⟨rfl, r2⟩ .nil
  refine ⟨h2, b, kt.kf x, eb, hfh _ _ hb, ?_⟩
  have hne : ∀ c ∈ cs, c.a ≠ a := fun c hc z => by
    obtain ⟨_, o, e1, _⟩ := ok0.cell c hc
    rw [z, ha] at e1
    cases e1
  have m0 : Mv cs F H cs F2 (upd H2 a (.dT [(kt.kf x, v2)])) := by
    refine ⟨g.ff, fun b u e => ?_, fun b n1 n2 => ?_, fun b u e _ => ?_, fun c hc => ?_, ok0.nd, fun c hc => .inl ⟨c, hc, rfl⟩, fun c hc n => ?_⟩
    · have : b ≠ a := fun z => by rw [z, hf2] at e; cases e
      rw [upd_ne this]
      exact g.fh _ _ e
    · have := g.fr b n1 n2
      by_cases z : b = a
      · rw [z]; exact ha
      · rw [upd_ne z] at this; exact this
    · have : b ≠ a := fun z => by rw [z, ha] at e; cases e
      rw [upd_ne this]
      exact g.hh _ _ (by rw [upd_ne this]; exact e)
    · obtain ⟨n, o, e1, e2⟩ := ok0.cell c hc
      have e3 : (upd H a (.dT [])) c.a = some o := by rw [upd_ne (hne c hc)]; exact e1
      refine ⟨?_, o, by rw [upd_ne (hne c hc)]; exact g.hh _ _ e3, c.ck.mono g.ff e2⟩
      cases q : F2 c.a with
      | none => rfl
      | some w =>
        have := g.fr c.a n (by rw [q]; simp)
        rw [e3] at this
        cases this
    · obtain ⟨_, o, e1, _⟩ := ok0.cell c hc
      have e3 : (upd H a (.dT [])) c.a = some o := by rw [upd_ne (hne c hc)]; exact e1
      rw [upd_ne (hne c hc), g.hh _ _ e3] at n
      cases n
  have m := newDt_mv2 (kt := kt) (T := T) m0 ha hf2 upd_same hne hr2 (by rw [sizeLine_eq]; show 1 ≤ _; omega)
  exact k a _ F2 _ _ ((ok.to m).set (T := tR) i rfl) (p.2 a _ rfl) W tk hx'
end
end MD
namespace MD
open PySem PySem.Spec PyProof.Rows L2
section
variable {X : Cx} {fl : Hp} {B : Hb X.K} {Y : Ec X.K} {ρ : List (Slot X.K)} {cs : List (Cell X.K)} {A R κ α β γ δ μ ν : Type} {pos : Pos} {rest : List Stmt} {D : Ends} {e : Expr}
theorem EK.some {T : Ty X.K α} {vl : μ → α} {cs' : μ → List (Cell X.K)} {M : (μ → Prop) → Prop} (h : EK X Y e ρ cs T vl cs' M) : EK X Y e ρ cs (tO T) (fun y => Option.some (vl y)) cs' M := fun F σ H ok xh φ p Q k => h F σ H ok xh φ p Q k
/-! ### repr of None, or of a list -/
end
end MD
namespace MD
open PySem PySem.Spec PyProof.Rows L2
/-! ### zip of two, its tuples given to one name: the tuple handed out may still be held, or be gone -/
/-- a zip's record, whatever its first two fields -/
abbrev ZR (h : Heap) (z TI TO : Addr) (u v : Value) : Prop := h.get? z = some { cls := .type "zip", dict := none, data := .fields #[u, v, .bool false, .ref TI, .ref TO], slots := #[] }
section
variable {prog : Program} {w : World} {A : Around} {E : Value → Shared → Prop} {s : Shared} {z TI TO i1 i2 T : Addr} {fp1 fp2 : List Addr} {n1 n2 i : Nat} {P1 P2 : Nat → Value → Prop} {St1 St2 : Nat → Heap → Prop} {a1 a2 u v : Value} {f : Bool}
theorem free_dead {Q : Bool → Shared → Prop} (hz : ZR s.heap z TI TO (rawInt T) v) (hT : s.heap.get? T = none) (h : Q true s) : wpAny (model prog w) A (Builtin.SmallTypes.ownedTupleIsFree (.ref z)) Q E s := by
  unfold Builtin.SmallTypes.ownedTupleIsFree
  refine wpAny_bind (wpAny_field hz rfl (x := rawInt T) rfl ?_)
  show wpAny _ _ (loadIfAlive ((T : Int).toNat) >>= fun r => _) _ _ _
  rw [Int.toNat_natCast]
  have q : ∀ {R : Option Obj → Shared → Prop}, R none s → wpAny (model prog w) A (loadIfAlive T) R E s := fun {R} r _ _ _ => by
    show R (s.heap.get? T) s
    rw [hT]
    exact r
  refine wpAny_bind (q ?_)
  exact wpAny_pure h
theorem zr_set0 {x : Value} {Q : Unit → Shared → Prop} (hz : ZR s.heap z TI TO u v) (h : ∀ h', ZR h' z TI TO x v → Heap.SameBut z s.heap h' → Q () { s with heap := h' }) : wpAny (model prog w) A (setField (.ref z) 0 x) Q E s :=
  wpAny_setField_rec hz (by simp) fun h' hz' hs' => h h' hz' hs'
theorem zr_set1 {x : Value} {Q : Unit → Shared → Prop} (hz : ZR s.heap z TI TO u v) (h : ∀ h', ZR h' z TI TO u x → Heap.SameBut z s.heap h' → Q () { s with heap := h' }) : wpAny (model prog w) A (setField (.ref z) 1 x) Q E s :=
  wpAny_setField_rec hz (by simp) fun h' hz' hs' => h h' hz' hs'
/-- the tuple kept within is free -/
theorem zn_free {Q : Value → Shared → Prop} (S : ZipSep2 z TI TO i1 i2 fp1 fp2) (D1 : Draws prog w A i1 fp1 n1 P1 St1) (D2 : Draws prog w A i2 fp2 n2 P2 St2) (hz : ZR s.heap z TI TO (rawInt T) v) (hT : s.heap.get? T = none)
    (hTI : IsTupOf2 s.heap TI (.ref i1) (.ref i2)) (hTO : IsTupOf2 s.heap TO a1 a2) (st1 : St1 i s.heap) (st2 : St2 i s.heap) (c1 : i < n1) (c2 : i < n2)
    (hQ : ∀ x1 x2 h' tk, P1 i x1 → P2 i x2 → ZR h' z TI TO (rawInt s.heap.objs.size) (.bool false) → IsTupOf2 h' TO x1 x2 → St1 (i + 1) h' → St2 (i + 1) h' → IsTupOf2 h' s.heap.objs.size x1 x2 →
      (∀ c o, c ≠ z → c ≠ TO → c ≠ i1 → c ≠ i2 → s.heap.get? c = some o → h'.get? c = some o) → Q (.ref s.heap.objs.size) { s with heap := h', toks := tk }) :
    wpAny (model prog w) A (Builtin.«zip.__next__» ⟨[.ref z], []⟩) (fun fin s' => ∃ r, fin = .done (.ret r) ∧ Q r s') E s := by
  obtain ⟨m, g, d, t0, os⟩ := s
  show wpAny _ _ (field (.ref z) 2 >>= fun r => _) _ _ _
  refine wpAny_bind (wpAny_field hz rfl (x := .bool false) rfl ?_)
  show wpAny _ _ (field (.ref z) 3 >>= fun r => _) _ _ _
  refine wpAny_bind (wpAny_field hz rfl (x := .ref TI) rfl (wpAny_bind (wpAny_seqItems hTI rfl ?_)))
  show wpAny _ _ (Builtin.SmallTypes.ownedTupleIsFree (.ref z) >>= fun r => _) _ _ _
  refine wpAny_bind (free_dead hz hT ?_)
  simp only [if_true]
  refine wpAny_bind (wpAny_rule (wpAny_bind (wpAny_field hz rfl (x := .ref TO) rfl (wpAny_bind (zr_set0 hz fun m0 b0 s0 => ?_)))))
  replace b0 : ZR m0 z TI TO .ellipsis v := b0
  replace s0 : Heap.SameBut z m m0 := s0
  refine wpAny_bind ?_
  simp only [List.zipIdx_cons, List.forIn_cons, List.zipIdx_nil, List.forIn_nil]
  refine wpAny_bind (wpAny_bind (wpAny_onRaise ?_))
  show wpAny _ _ (Builtin.SmallTypes.nextOf (.ref i1) >>= fun r => _) _ _ ⟨m0, g, d, t0, os⟩
  refine wpAny_bind (D1.item i _ _ _ c1 (D1.over st1 s0 S.zf1) fun x1 m1 t1 y1 k1 s1 => wpAny_pure ?_)
  replace s1 : Heap.SameBut i1 m0 m1 := s1
  have b1 : IsTupOf2 m1 TO a1 a2 := s1.extBut _ _ S.Ti1 (s0.extBut _ _ S.TOz hTO)
  refine wpAny_bind (wpAny_seqItems (s := ⟨m1, g, d, t1, os⟩) b1 rfl (wpAny_bind (updateSeq_IsTupOf2 (s := ⟨m1, g, d, t1, os⟩) b1 fun m2 b2 s2 => ?_)))
  replace b2 : IsTupOf2 m2 TO x1 a2 := b2
  replace s2 : Heap.SameBut TO m1 m2 := s2
  refine wpAny_bind (wpAny_letGo (wpAny_pure (wpAny_bind (wpAny_bind (wpAny_onRaise ?_)))))
  show wpAny _ _ (Builtin.SmallTypes.nextOf (.ref i2) >>= fun r => _) _ _ ⟨m2, g, d, t1, os⟩
  refine wpAny_bind (D2.item i _ _ _ c2 (D2.over (D2.over (D2.over st2 s0 S.zf2) s1 S.sep1_2) s2 S.Tf2) fun x2 m3 t2 y2 k2 s3 => wpAny_pure ?_)
  replace s3 : Heap.SameBut i2 m2 m3 := s3
  have b3 : IsTupOf2 m3 TO x1 a2 := s3.extBut _ _ S.Ti2 b2
  refine wpAny_bind (wpAny_seqItems (s := ⟨m3, g, d, t2, os⟩) b3 rfl (wpAny_bind (updateSeq_IsTupOf2 (s := ⟨m3, g, d, t2, os⟩) b3 fun m4 b4 s4 => ?_)))
  replace b4 : IsTupOf2 m4 TO x1 x2 := b4
  replace s4 : Heap.SameBut TO m3 m4 := s4
  refine wpAny_bind (wpAny_letGo (wpAny_pure (wpAny_pure (wpAny_bind (wpAny_seqItems (s := ⟨m4, g, d, t2, os⟩) b4 rfl (wpAny_bind (wpAny_newTuple ?_)))))))
  have sz : m4.objs.size = m.objs.size := by rw [s4.1, s3.1, s2.1, s1.1, s0.1]
  have bz : ZR m4 z TI TO .ellipsis v := s4.extBut _ _ S.TOz.symm (s3.extBut _ _ S.zi2 (s2.extBut _ _ S.TOz.symm (s1.extBut _ _ S.zi1 b0)))
  have kk : ∀ c o, c ≠ z → c ≠ TO → c ≠ i1 → c ≠ i2 → m.get? c = some o → m4.get? c = some o := fun c o e0 e1 e2 e3 e => s4.extBut _ _ e1 (s3.extBut _ _ e3 (s2.extBut _ _ e1 (s1.extBut _ _ e2 (s0.extBut _ _ e0 e))))
  have r1 : St1 (i + 1) m4 := D1.over (D1.over (D1.over k1 s2 S.Tf1) s3 S.sep2_1) s4 S.Tf1
  have r2 : St2 (i + 1) m4 := D2.over k2 s4 S.Tf2
  have lz : z < m4.objs.size := Heap.lt_size bz
  show wpAny _ _ (Builtin.SmallTypes.ownedTupleHandOut (.ref z) (.ref m4.objs.size) >>= fun r => _) _ _ ⟨m4.push { cls := .type "tuple", data := .seq #[x1, x2] }, g, d, t2, os⟩
  refine wpAny_bind ?_
  unfold Builtin.SmallTypes.ownedTupleHandOut
  have b5 : ZR (m4.push { cls := .type "tuple", data := .seq #[x1, x2] }) z TI TO .ellipsis v := Heap.get?_push_of_some _ bz
  refine wpAny_bind (zr_set0 b5 fun m6 b6 s6 => ?_)
  replace b6 : ZR m6 z TI TO (rawInt m4.objs.size) v := b6
  refine zr_set1 b6 fun m7 b7 s7 => ?_
  replace b7 : ZR m7 z TI TO (rawInt m4.objs.size) (.bool false) := b7
  replace s6 : Heap.SameBut z (m4.push { cls := .type "tuple", data := .seq #[x1, x2] }) m6 := s6
  replace s7 : Heap.SameBut z m6 m7 := s7
  have up : ∀ c o, c ≠ z → m4.get? c = some o → m7.get? c = some o := fun c o e0 e => s7.extBut _ _ e0 (s6.extBut _ _ e0 (Heap.get?_push_of_some _ e))
  have b8 : IsTupOf2 m7 m4.objs.size x1 x2 := s7.extBut _ _ (Nat.ne_of_gt lz) (s6.extBut _ _ (Nat.ne_of_gt lz) (Heap.get?_push_size _ rfl))
  rw [sz] at b7 b8
  refine wpAny_pure ⟨_, rfl, ?_⟩
  show Q (.ref m4.objs.size) ⟨m7, g, d, t2, os⟩
  rw [sz]
  exact hQ x1 x2 m7 t2 y1 y2 b7 (up _ _ S.TOz b4) (D1.frame _ _ _ r1 fun b hb o e => up b o (fun q => S.zf1 (q ▸ hb)) e) (D2.frame _ _ _ r2 fun b hb o e => up b o (fun q => S.zf2 (q ▸ hb)) e) b8 fun c o e0 e1 e2 e3 e => up c o e0 (kk c o e0 e1 e2 e3 e)
/-- the tuple handed out last is still held -/
theorem zn_held {Q : Value → Shared → Prop} {oT : Obj} (S : ZipSep2 z TI TO i1 i2 fp1 fp2) (D1 : Draws prog w A i1 fp1 n1 P1 St1) (D2 : Draws prog w A i2 fp2 n2 P2 St2) (hz : IsZipHeld s.heap z TI TO T f) (hT : s.heap.get? T = some oT)
    (hTI : IsTupOf2 s.heap TI (.ref i1) (.ref i2)) (st1 : St1 i s.heap) (st2 : St2 i s.heap) (c1 : i < n1) (c2 : i < n2)
    (hQ : ∀ x1 x2 h' tk, P1 i x1 → P2 i x2 → IsZipHeld h' z TI TO T true → St1 (i + 1) h' → St2 (i + 1) h' → IsTupOf2 h' s.heap.objs.size x1 x2 →
      (∀ c o, c ≠ z → c ≠ i1 → c ≠ i2 → s.heap.get? c = some o → h'.get? c = some o) → Q (.ref s.heap.objs.size) { s with heap := h', toks := tk }) :
    wpAny (model prog w) A (Builtin.«zip.__next__» ⟨[.ref z], []⟩) (fun fin s' => ∃ r, fin = .done (.ret r) ∧ Q r s') E s := by
  obtain ⟨m, g, d, t0, os⟩ := s
  show wpAny _ _ (field (.ref z) 2 >>= fun r => _) _ _ _
  refine wpAny_bind (wpAny_field hz rfl (x := .bool false) rfl ?_)
  show wpAny _ _ (field (.ref z) 3 >>= fun r => _) _ _ _
  refine wpAny_bind (wpAny_field hz rfl (x := .ref TI) rfl (wpAny_bind (wpAny_seqItems hTI rfl ?_)))
  show wpAny _ _ (Builtin.SmallTypes.ownedTupleIsFree (.ref z) >>= fun r => _) _ _ _
  refine wpAny_bind (wpAny_tupleHeld_zip hz hT fun m0 b0 s0 => ?_)
  replace s0 : Heap.SameBut z m m0 := s0
  simp only [if_false, Bool.false_eq_true]
  refine wpAny_bind ?_
  rw [← Array.forIn_toList]
  simp only [List.forIn_nil, List.forIn_cons]
  refine wpAny_bind (wpAny_bind (wpAny_holding ?_))
  show wpAny _ _ (Builtin.SmallTypes.nextOf (.ref i1) >>= fun r => _) _ _ ⟨m0, g, d, t0, os⟩
  refine wpAny_bind (D1.item i _ _ _ c1 (D1.over st1 s0 S.zf1) fun x1 m1 t1 y1 k1 s1 => wpAny_pure (wpAny_pure (wpAny_bind (wpAny_bind (wpAny_holding ?_)))))
  replace s1 : Heap.SameBut i1 m0 m1 := s1
  show wpAny _ _ (Builtin.SmallTypes.nextOf (.ref i2) >>= fun r => _) _ _ ⟨m1, g, d, t1, os⟩
  refine wpAny_bind (D2.item i _ _ _ c2 (D2.over (D2.over st2 s0 S.zf2) s1 S.sep1_2) fun x2 m2 t2 y2 k2 s2 => wpAny_pure (wpAny_pure (wpAny_pure ?_)))
  replace s2 : Heap.SameBut i2 m1 m2 := s2
  show wpAny _ _ (newTuple [x1, x2] >>= fun r => _) _ _ ⟨m2, g, d, t2, os⟩
  refine wpAny_bind (wpAny_newTuple (wpAny_pure ⟨_, rfl, ?_⟩))
  have sz : m2.objs.size = m.objs.size := by rw [s2.1, s1.1, s0.1]
  show Q (.ref m2.objs.size) ⟨m2.push { cls := .type "tuple", data := .seq #[x1, x2] }, g, d, t2, os⟩
  have b3 : IsTupOf2 (m2.push { cls := .type "tuple", data := .seq #[x1, x2] }) m2.objs.size x1 x2 := Heap.get?_push_size _ rfl
  rw [sz] at b3 ⊢
  have bz : IsZipHeld m2 z TI TO T true := s2.extBut _ _ S.zi2 (s1.extBut _ _ S.zi1 b0)
  have r1 : St1 (i + 1) m2 := D1.over k1 s2 S.sep2_1
  exact hQ x1 x2 _ t2 y1 y2 (Heap.get?_push_of_some _ bz) (D1.frame _ _ _ r1 fun b _ o e => Heap.get?_push_of_some _ e) (D2.frame _ _ _ k2 fun b _ o e => Heap.get?_push_of_some _ e) b3 fun c o e0 e1 e2 e => Heap.get?_push_of_some _ (s2.extBut _ _ e2 (s1.extBut _ _ e1 (s0.extBut _ _ e0 e)))
theorem zn_freeEnd {Q : Fin → Shared → Prop} (S : ZipSep2 z TI TO i1 i2 fp1 fp2) (D1 : Draws prog w A i1 fp1 n1 P1 St1) (D2 : Draws prog w A i2 fp2 n2 P2 St2) (hz : ZR s.heap z TI TO (rawInt T) v) (hT : s.heap.get? T = none)
    (hTI : IsTupOf2 s.heap TI (.ref i1) (.ref i2)) (hTO : IsTupOf2 s.heap TO a1 a2) (st1 : St1 i s.heap) (st2 : St2 i s.heap) (l1 : i ≤ n1) (l2 : i ≤ n2) (hend : i = n1 ∨ i = n2)
    (hE : ∀ h' tk e, (∀ c o, c ≠ z → c ≠ TO → c ≠ i1 → c ≠ i2 → s.heap.get? c = some o → h'.get? c = some o) → (∃ o, h'.get? e = some o ∧ o.cls = .type "StopIteration") → E (.ref e) { s with heap := h', toks := tk }) :
    wpAny (model prog w) A (Builtin.«zip.__next__» ⟨[.ref z], []⟩) Q E s := by
  obtain ⟨m, g, d, t0, os⟩ := s
  show wpAny _ _ (field (.ref z) 2 >>= fun r => _) _ _ _
  refine wpAny_bind (wpAny_field hz rfl (x := .bool false) rfl ?_)
  show wpAny _ _ (field (.ref z) 3 >>= fun r => _) _ _ _
  refine wpAny_bind (wpAny_field hz rfl (x := .ref TI) rfl (wpAny_bind (wpAny_seqItems hTI rfl ?_)))
  show wpAny _ _ (Builtin.SmallTypes.ownedTupleIsFree (.ref z) >>= fun r => _) _ _ _
  refine wpAny_bind (free_dead hz hT ?_)
  simp only [if_true]
  refine wpAny_bind (wpAny_rule (wpAny_bind (wpAny_field hz rfl (x := .ref TO) rfl (wpAny_bind (zr_set0 hz fun m0 b0 s0 => ?_)))))
  replace b0 : ZR m0 z TI TO .ellipsis v := b0
  replace s0 : Heap.SameBut z m m0 := s0
  refine wpAny_bind ?_
  simp only [List.zipIdx_cons, List.forIn_cons, List.zipIdx_nil, List.forIn_nil]
  refine wpAny_bind (wpAny_bind (wpAny_onRaise ?_))
  show wpAny _ _ (Builtin.SmallTypes.nextOf (.ref i1) >>= fun r => _) _ _ ⟨m0, g, d, t0, os⟩
  by_cases c1 : i < n1
  · refine wpAny_bind (D1.item i _ _ _ c1 (D1.over st1 s0 S.zf1) fun x1 m1 t1 y1 k1 s1 => wpAny_pure ?_)
    replace s1 : Heap.SameBut i1 m0 m1 := s1
    have b1 : IsTupOf2 m1 TO a1 a2 := s1.extBut _ _ S.Ti1 (s0.extBut _ _ S.TOz hTO)
    refine wpAny_bind (wpAny_seqItems (s := ⟨m1, g, d, t1, os⟩) b1 rfl (wpAny_bind (updateSeq_IsTupOf2 (s := ⟨m1, g, d, t1, os⟩) b1 fun m2 b2 s2 => ?_)))
    replace b2 : IsTupOf2 m2 TO x1 a2 := b2
    replace s2 : Heap.SameBut TO m1 m2 := s2
    have e2 : i = n2 := by omega
    refine wpAny_bind (wpAny_letGo (wpAny_pure (wpAny_bind (wpAny_bind (wpAny_onRaise ?_)))))
    show wpAny _ _ (Builtin.SmallTypes.nextOf (.ref i2) >>= fun r => _) _ _ ⟨m2, g, d, t1, os⟩
    refine wpAny_bind (D2.done ⟨m2, g, d, t1, os⟩ _ _ (by rw [← e2]; exact D2.over (D2.over (D2.over st2 s0 S.zf2) s1 S.sep1_2) s2 S.Tf2) fun m3 e s3 he => ?_)
    replace s3 : Heap.ExtBut i2 m2 m3 := s3
    obtain ⟨oe, h1, h2⟩ := he
    replace h1 : m3.get? e = some oe := h1
    have bz : ZR m3 z TI TO .ellipsis v := s3 _ _ S.zi2 (s2.extBut _ _ S.TOz.symm (s1.extBut _ _ S.zi1 b0))
    have ez : e ≠ z := fun q => by
      rw [q, bz] at h1
      rw [← Option.some.inj h1] at h2
      exact absurd (Value.type.inj h2) (by decide)
    refine zr_set0 (s := ⟨m3, g, d, t1, os⟩) bz fun m4 _ s4 => ?_
    replace s4 : Heap.SameBut z m3 m4 := s4
    exact hE m4 t1 e (fun c o q0 q1 q2 q3 q => s4.extBut _ _ q0 (s3 _ _ q3 (s2.extBut _ _ q1 (s1.extBut _ _ q2 (s0.extBut _ _ q0 q))))) ⟨oe, s4.extBut _ _ ez h1, h2⟩
  · have e1 : i = n1 := by omega
    refine wpAny_bind (D1.done ⟨m0, g, d, t0, os⟩ _ _ (by rw [← e1]; exact D1.over st1 s0 S.zf1) fun m3 e s3 he => ?_)
    replace s3 : Heap.ExtBut i1 m0 m3 := s3
    obtain ⟨oe, h1, h2⟩ := he
    replace h1 : m3.get? e = some oe := h1
    have bz : ZR m3 z TI TO .ellipsis v := s3 _ _ S.zi1 b0
    have ez : e ≠ z := fun q => by
      rw [q, bz] at h1
      rw [← Option.some.inj h1] at h2
      exact absurd (Value.type.inj h2) (by decide)
    refine zr_set0 (s := ⟨m3, g, d, t0, os⟩) bz fun m4 _ s4 => ?_
    replace s4 : Heap.SameBut z m3 m4 := s4
    exact hE m4 t0 e (fun c o q0 q1 q2 q3 q => s4.extBut _ _ q0 (s3 _ _ q2 (s0.extBut _ _ q0 q))) ⟨oe, s4.extBut _ _ ez h1, h2⟩
theorem zn_heldEnd {Q : Fin → Shared → Prop} {oT : Obj} (S : ZipSep2 z TI TO i1 i2 fp1 fp2) (D1 : Draws prog w A i1 fp1 n1 P1 St1) (D2 : Draws prog w A i2 fp2 n2 P2 St2) (hz : IsZipHeld s.heap z TI TO T f) (hT : s.heap.get? T = some oT)
    (hTI : IsTupOf2 s.heap TI (.ref i1) (.ref i2)) (st1 : St1 i s.heap) (st2 : St2 i s.heap) (l1 : i ≤ n1) (l2 : i ≤ n2) (hend : i = n1 ∨ i = n2)
    (hE : ∀ h' tk e, (∀ c o, c ≠ z → c ≠ i1 → c ≠ i2 → s.heap.get? c = some o → h'.get? c = some o) → (∃ o, h'.get? e = some o ∧ o.cls = .type "StopIteration") → E (.ref e) { s with heap := h', toks := tk }) :
    wpAny (model prog w) A (Builtin.«zip.__next__» ⟨[.ref z], []⟩) Q E s := by
  obtain ⟨m, g, d, t0, os⟩ := s
  show wpAny _ _ (field (.ref z) 2 >>= fun r => _) _ _ _
  refine wpAny_bind (wpAny_field hz rfl (x := .bool false) rfl ?_)
  show wpAny _ _ (field (.ref z) 3 >>= fun r => _) _ _ _
  refine wpAny_bind (wpAny_field hz rfl (x := .ref TI) rfl (wpAny_bind (wpAny_seqItems hTI rfl ?_)))
  show wpAny _ _ (Builtin.SmallTypes.ownedTupleIsFree (.ref z) >>= fun r => _) _ _ _
  refine wpAny_bind (wpAny_tupleHeld_zip hz hT fun m0 b0 s0 => ?_)
  replace s0 : Heap.SameBut z m m0 := s0
  simp only [if_false, Bool.false_eq_true]
  refine wpAny_bind ?_
  rw [← Array.forIn_toList]
  simp only [List.forIn_nil, List.forIn_cons]
  refine wpAny_bind (wpAny_bind (wpAny_holding ?_))
  show wpAny _ _ (Builtin.SmallTypes.nextOf (.ref i1) >>= fun r => _) _ _ ⟨m0, g, d, t0, os⟩
  by_cases c1 : i < n1
  · refine wpAny_bind (D1.item i _ _ _ c1 (D1.over st1 s0 S.zf1) fun x1 m1 t1 y1 k1 s1 => wpAny_pure (wpAny_pure (wpAny_bind (wpAny_bind (wpAny_holding ?_)))))
    replace s1 : Heap.SameBut i1 m0 m1 := s1
    have e2 : i = n2 := by omega
    show wpAny _ _ (Builtin.SmallTypes.nextOf (.ref i2) >>= fun r => _) _ _ ⟨m1, g, d, t1, os⟩
    refine wpAny_bind (D2.done ⟨m1, g, d, t1, os⟩ _ _ (by rw [← e2]; exact D2.over (D2.over st2 s0 S.zf2) s1 S.sep1_2) fun m3 e s3 he => ?_)
    exact hE m3 t1 e (fun c o q0 q2 q3 q => s3 _ _ q3 (s1.extBut _ _ q2 (s0.extBut _ _ q0 q))) he
  · have e1 : i = n1 := by omega
    refine wpAny_bind (D1.done ⟨m0, g, d, t0, os⟩ _ _ (by rw [← e1]; exact D1.over st1 s0 S.zf1) fun m3 e s3 he => ?_)
    exact hE m3 t0 e (fun c o q0 q2 q3 q => s3 _ _ q2 (s0.extBut _ _ q0 q)) he
end
section
variable {prog : Program} {w : World} {A : Around} {E : Value → Shared → Prop} {s : Shared} {z : Addr} {u v : Value} {TI TO : Addr}
theorem zn_next {Q : Option Value → Shared → Prop} (hz : ZR s.heap z TI TO u v) (h : ∀ E' : Value → Shared → Prop, wpAny (model prog w) A.in1 (Builtin.«zip.__next__» ⟨[.ref z], []⟩) (fun fin s' => ∃ r, fin = .done (.ret r) ∧ Q (some r) s') E' s) : wpAny (model prog w) A (pyNext (.ref z)) Q E s := by
  have ht : s.TypeIs (.ref z) "zip" := ⟨_, hz, rfl⟩
  unfold pyNext
  exact wpAny_bind (wpAny_attempt (wpAny_callSpecial?_slot (name := Str.ofString "__next__") ht F.slot_zip_next (wpAny_call_entry F.slot_zip_next ht F.entry_zip_next (wpAny_mono (h _) (fun fin s' ⟨r, e, q⟩ => ⟨r, e, wpAny_pure q⟩) fun _ _ e => e) (F.args_zip_next_1 _))))
theorem zn_stop {Q : Option Value → Shared → Prop} {C : Heap → Prop} (hz : ZR s.heap z TI TO u v)
    (h : ∀ (Q' : Fin → Shared → Prop) (E' : Value → Shared → Prop), (∀ h' tk e, C h' → (∃ o, h'.get? e = some o ∧ o.cls = .type "StopIteration") → E' (.ref e) { s with heap := h', toks := tk }) → wpAny (model prog w) A.in1 (Builtin.«zip.__next__» ⟨[.ref z], []⟩) Q' E' s)
    (hQ : ∀ h' tk, C h' → Q none { s with heap := h', toks := tk }) : wpAny (model prog w) A (pyNext (.ref z)) Q E s := by
  have ht : s.TypeIs (.ref z) "zip" := ⟨_, hz, rfl⟩
  unfold pyNext
  refine wpAny_bind (wpAny_attempt (wpAny_callSpecial?_slot (name := Str.ofString "__next__") ht F.slot_zip_next (wpAny_call_entry F.slot_zip_next ht F.entry_zip_next (h _ _ fun h' tk e c he => ?_) (F.args_zip_next_1 _))))
  obtain ⟨o, ho, hc⟩ := he
  exact wpAny_bind (wpAny_isInstance (T := "StopIteration") (b := true) ⟨o, ho, hc⟩ isSubtype_stop (wpAny_pure (hQ _ _ c)))
end
/-! ### the walk -/
def ItzN (k k2 : Bool) (K : PySem.W.Frag) (a b : Addr) (n : Nat) : It :=
  ⟨fun i H => i < n ∧ ∃ (xs ys : List V) (x y : V), SqK k K H a xs ∧ SqK k2 K H b ys ∧ xs[i]? = some x ∧ ys[i]? = some y,
    fun i H v H' => ∃ T x y, v = .ref T ∧ H T = none ∧ H' = upd H T (.tup [x, y]) ∧ (∀ xs, SqK k K H a xs → xs[i]? = some x) ∧ ∀ ys, SqK k2 K H b ys → ys[i]? = some y,
    fun i H => ∃ xs ys : List V, SqK k K H a xs ∧ SqK k2 K H b ys ∧ n = min xs.length ys.length ∧ n ≤ i⟩
abbrev TnN (k k2 : Bool) (z TI TO i1 i2 a b : Addr) (i : Nat) (h : Heap) : Prop :=
  (IsZip h z TI TO .none ∨ ∃ T f, IsZipHeld h z TI TO T f) ∧ IsTupOf2 h TI (.ref i1) (.ref i2) ∧ (∃ a1 a2, IsTupOf2 h TO a1 a2) ∧ ItK k h i1 a i ∧ ItK k2 h i2 b i
theorem tnN_obj {k k2 : Bool} {z TI TO i1 i2 a b : Addr} {i : Nat} {h : Heap} (st : TnN k k2 z TI TO i1 i2 a b i h) : ∀ d ∈ [z, TI, TO, i1, i2], ∃ o, h.get? d = some o ∧ ∀ v, o.data ≠ .cell v := fun d hd => by
  obtain ⟨hz, hTI, ⟨x, y, hTO⟩, h1, h2⟩ := st
  have e' : d = z ∨ d = TI ∨ d = TO ∨ d = i1 ∨ d = i2 := by simpa using hd
  rcases e' with q | q | q | q | q
  · rw [q]
    rcases hz with hz | ⟨T, f, hz⟩
    · exact ⟨_, hz, fun v q => nomatch q⟩
    · exact ⟨_, hz, fun v q => nomatch q⟩
  · rw [q]; exact ⟨_, hTI, fun v q => nomatch q⟩
  · rw [q]; exact ⟨_, hTO, fun v q => nomatch q⟩
  · rw [q]; exact h1.obj
  · rw [q]; exact h2.obj
theorem turn_zipN {P : Program} {w : World} {K : PySem.W.Frag} {nm : Str} {tpos : Pos} (k k2 : Bool) (n : Nat) {a b z TI TO i1 i2 : Addr} (S : ZipSep2 z TI TO i1 i2 [i1, a] [i2, b]) (d1 : a ≠ i1) (d2 : b ≠ i2) :
    Turn P w K (.Name nm tpos) (ItzN k k2 K a b n) [z, TI, TO, i1, i2] z (fun i h => TnN k k2 z TI TO i1 i2 a b i h ∧ i ≤ n) where
  mem := by simp
  obj := fun i h st d hd => tnN_obj st.1 d hd
  keep := fun i h h' st kp => by
    obtain ⟨⟨hz, hTI, ⟨x, y, hTO⟩, h1, h2⟩, hn⟩ := st
    refine ⟨⟨?_, kp TI (by simp) _ hTI, ⟨x, y, kp TO (by simp) _ hTO⟩, h1.at fun o q => kp i1 (by simp) o q, h2.at fun o q => kp i2 (by simp) o q⟩, hn⟩
    rcases hz with hz | ⟨T, f, hz⟩
    · exact .inl (kp z (by simp) _ hz)
    · exact .inr ⟨T, f, kp z (by simp) _ hz⟩
  item := by
    intro X hP hw hK hc i pins s σ H E I hf st hg
    subst hP hw hK
    obtain ⟨st0, _⟩ := st
    obtain ⟨hz, hTI, ⟨a1, a2, hTO⟩, h1, h2⟩ := id st0
    obtain ⟨hlt, xs, ys, x, y, hqx, hqy, hx, hy⟩ := hg
    obtain ⟨l1, rv1, p1, _⟩ := inv_sqK I hqx
    obtain ⟨l2, rv2, p2, _⟩ := inv_sqK I hqy
    obtain ⟨v1, hv1, r1⟩ := rv1.get hx
    obtain ⟨v2, hv2, r2⟩ := rv2.get hy
    have hh : X.A.in1.handled = none := I.ok.hd hc
    have D1 := drawsK (prog := X.prog) (w := X.w) k hh i1 a d1 l1.toArray
    have D2 := drawsK (prog := X.prog) (w := X.w) k2 hh i2 b d2 l2.toArray
    have b1 : i < l1.toArray.size := by rw [List.size_toArray]; exact (List.getElem?_eq_some_iff.mp hv1).1
    have b2 : i < l2.toArray.size := by rw [List.size_toArray]; exact (List.getElem?_eq_some_iff.mp hv2).1
    have fin : ∀ (w1 w2 : Value) (h' : Heap) (tk : Nat), l1.toArray[i]? = some w1 → l2.toArray[i]? = some w2 → (∃ T f, IsZipHeld h' z TI TO T f) → (∃ a1 a2, IsTupOf2 h' TO a1 a2) → (ItK k h' i1 a (i + 1) ∧ CoK k h' a l1.toArray) → (ItK k2 h' i2 b (i + 1) ∧ CoK k2 h' b l2.toArray) → IsTupOf2 h' s.heap.objs.size w1 w2 →
        (∀ c o, c ∉ [z, TI, TO, i1, i2] → s.heap.get? c = some o → h'.get? c = some o) → IsTupOf2 h' TI (.ref i1) (.ref i2) →
        ∃ u, some (Value.ref s.heap.objs.size) = some u ∧ wpAny (model X.prog X.w) X.A (letOwnedTupleGo (.Name nm tpos) (.ref z) u) (fun _ s2 => ∃ x H', Inv X pins σ H' s2 ∧ RelV x u ∧ (ItzN k k2 X.K a b n).yld i H x H' ∧ (TnN k k2 z TI TO i1 i2 a b (i + 1) s2.heap ∧ i + 1 ≤ n) ∧ ∀ b ∈ [z, TI, TO, i1, i2], H' b = none) E { s with heap := h', toks := tk } := fun w1 w2 h' tk q1 q2 qz qTO q3 q4 qT hk qTI => by
      have e1 : w1 = v1 := by
        rw [List.getElem?_toArray, hv1] at q1
        exact (Option.some.inj q1).symm
      have e2 : w2 = v2 := by
        rw [List.getElem?_toArray, hv2] at q2
        exact (Option.some.inj q2).symm
      subst e1 e2
      have new : ObjOk X.prog X.w (upd H s.heap.objs.size (.tup [x, y])) h' s.heap.objs.size (.tup [x, y]) :=
        ⟨by show 2 ≤ sizeLine; decide, [w1, w2], .cons r1 (.cons r2 .nil), ⟨_, qT, rfl, _, rfl⟩⟩
      have I1 : Inv X pins σ (upd H s.heap.objs.size (.tup [x, y])) { s with heap := h', toks := tk } :=
        I.turnedNew (t' := tk) (ch := [z, TI, TO, i1, i2]) (fun d o hb q => hk d o hb q) hf (Nat.le_refl _) new
      refine ⟨_, rfl, wpAny_pure ⟨.ref s.heap.objs.size, _, I1, rfl, ⟨s.heap.objs.size, x, y, rfl, I.hok.fresh (Nat.le_refl _), rfl, fun l hl => by rw [inv_injK I hl hqx]; exact hx, fun l hl => by rw [inv_injK I hl hqy]; exact hy⟩, ⟨⟨.inr qz, qTI, qTO, q3.1, q4.1⟩, hlt⟩, fun d hd => ?_⟩⟩
      obtain ⟨o, ho, _⟩ := tnN_obj st0 d hd
      rw [upd_ne (Nat.ne_of_lt (Heap.lt_size ho))]
      exact (hf d hd).1
    rcases hz with hz | ⟨T, f, hz⟩
    · refine wpAny_pyNext_zipD2_item S D1 D2 hz hTI hTO ⟨h1, p1⟩ ⟨h2, p2⟩ b1 b2 fun x1 x2 h' tk q1 q2 qz qTO q3 q4 qT _ hk => ?_
      exact fin x1 x2 h' tk q1 q2 ⟨_, _, qz⟩ ⟨_, _, qTO⟩ q3 q4 qT (fun c o hb e => hk c o (fun q => hb (by simp [q])) (fun q => hb (by simp [q])) (fun q => hb (by simp [q])) (fun q => hb (by simp [q])) e) (hk _ _ S.TIz S.TITO S.TIi1 S.TIi2 hTI)
    · cases hT : s.heap.get? T with
      | none =>
        refine zn_next hz fun E' => zn_free S D1 D2 hz hT hTI hTO ⟨h1, p1⟩ ⟨h2, p2⟩ b1 b2 fun x1 x2 h' tk q1 q2 qz qTO q3 q4 qT hk => ?_
        exact fin x1 x2 h' tk q1 q2 ⟨_, _, qz⟩ ⟨_, _, qTO⟩ q3 q4 qT (fun c o hb e => hk c o (fun q => hb (by simp [q])) (fun q => hb (by simp [q])) (fun q => hb (by simp [q])) (fun q => hb (by simp [q])) e) (hk _ _ S.TIz S.TITO S.TIi1 S.TIi2 hTI)
      | some oT =>
        refine zn_next hz fun E' => zn_held S D1 D2 hz hT hTI ⟨h1, p1⟩ ⟨h2, p2⟩ b1 b2 fun x1 x2 h' tk q1 q2 qz q3 q4 qT hk => ?_
        exact fin x1 x2 h' tk q1 q2 ⟨_, _, qz⟩ ⟨_, _, hk _ _ S.TOz S.Ti1 S.Ti2 hTO⟩ q3 q4 qT (fun c o hb e => hk c o (fun q => hb (by simp [q])) (fun q => hb (by simp [q])) (fun q => hb (by simp [q])) e) (hk _ _ S.TIz S.TIi1 S.TIi2 hTI)
  done := by
    intro X hP hw hK hc i pins s σ H E I hf st hg
    subst hP hw hK
    obtain ⟨⟨hz, hTI, ⟨a1, a2, hTO⟩, h1, h2⟩, hle⟩ := st
    obtain ⟨xs, ys, hqx, hqy, hend, hge⟩ := hg
    obtain ⟨l1, rv1, p1, _⟩ := inv_sqK I hqx
    obtain ⟨l2, rv2, p2, _⟩ := inv_sqK I hqy
    have hh : X.A.in1.handled = none := I.ok.hd hc
    have D1 := drawsK (prog := X.prog) (w := X.w) k hh i1 a d1 l1.toArray
    have D2 := drawsK (prog := X.prog) (w := X.w) k2 hh i2 b d2 l2.toArray
    have g1 := rv1.length
    have g2 := rv2.length
    have c1 : i ≤ l1.toArray.size := by rw [List.size_toArray]; omega
    have c2 : i ≤ l2.toArray.size := by rw [List.size_toArray]; omega
    have c3 : i = l1.toArray.size ∨ i = l2.toArray.size := by rw [List.size_toArray, List.size_toArray]; omega
    have fin : ∀ h' tk, (∀ c o, c ∉ [z, TI, TO, i1, i2] → s.heap.get? c = some o → h'.get? c = some o) → (none : Option Value) = none ∧ Inv X pins σ H { s with heap := h', toks := tk } := fun h' tk hk => ⟨rfl, I.turnedL (t' := tk) (ch := [z, TI, TO, i1, i2]) hk hf⟩
    rcases hz with hz | ⟨T, f, hz⟩
    · exact wpAny_pyNext_zipD2_end S D1 D2 hz hTI hTO ⟨h1, p1⟩ ⟨h2, p2⟩ c1 c2 c3 fun h' tk hk => fin h' tk fun c o hb e => hk c o (fun q => hb (by simp [q])) (fun q => hb (by simp [q])) (fun q => hb (by simp [q])) (fun q => hb (by simp [q])) e
    · cases hT : s.heap.get? T with
      | none => exact zn_stop hz (fun Q' E' hE => zn_freeEnd S D1 D2 hz hT hTI hTO ⟨h1, p1⟩ ⟨h2, p2⟩ c1 c2 c3 hE) fun h' tk hk => fin h' tk fun c o hb e => hk c o (fun q => hb (by simp [q])) (fun q => hb (by simp [q])) (fun q => hb (by simp [q])) (fun q => hb (by simp [q])) e
      | some oT => exact zn_stop hz (fun Q' E' hE => zn_heldEnd S D1 D2 hz hT hTI ⟨h1, p1⟩ ⟨h2, p2⟩ c1 c2 c3 hE) fun h' tk hk => fin h' tk fun c o hb e => hk c o (fun q => hb (by simp [q])) (fun q => hb (by simp [q])) (fun q => hb (by simp [q])) e
  self := fun A i s Q E st h => by
    obtain ⟨⟨hz, _⟩, _⟩ := st
    rcases hz with hz | ⟨T, f, hz⟩
    · exact wpAny_pyIter_zip hz h
    · have ht : s.TypeIs (.ref z) "zip" := ⟨_, hz, rfl⟩
      exact wpAny_pyIter_slot ht F.slot_zip_iter (wpAny_call_entry F.slot_zip_iter ht F.entry_zip_iter (show wpAny _ _ (ret (.ref z)) _ _ s from wpAny_pure ⟨_, rfl, "zip", _, ht, F.slot_zip_next.lookup, h⟩) (F.args_zip_iter_1 _))
theorem pi_zipN (k k2 : Bool) {X : Cx} {e e2 : Expr} {ta : TA} {nm : Str} {p pos tpos : Pos} (hg : Gl X "zip") (hm : X.mg "zip" = none) (ha : PA X [e, e2] ta)
    (hs : starEach [e, e2] X.env = (false, eval e X.env) :: starEach [e2] X.env := by rfl) (hpl : (backTo pos (starEach [e2] X.env)).any (·.1) = false := by rfl) :
    PI X (.Name nm tpos) (.Call (.Name "zip" p) [e, e2] [] pos) (fun σ H R => ta σ H fun vs H1 => ∃ a b xs ys, vs = [.ref a, .ref b] ∧ SqK k X.K H1 a xs ∧ SqK k2 X.K H1 b ys ∧ R (ItzN k k2 X.K a b (min xs.length ys.length)) H1) := by
  refine ⟨fun pins s σ H R I h => ?_⟩
  refine Call_ (ld_blt I hg hm PyProof.Rows.boot_zip (PyProof.Rows.callWith_type1 (thn (ha.run pos pins s σ H _ I h) fun us s1 ⟨vs, H1, I1, r1, q1⟩ => ?_) hs hpl))
  obtain ⟨a, b, xs, ys, ex, hqx, hqy, q⟩ := q1
  subst ex
  cases r1 with
  | cons r rr =>
    cases rr with
    | cons r' rr =>
      cases rr
      cases r
      cases r'
      obtain ⟨l1, rv1, p1, _⟩ := inv_sqK I1 hqx
      obtain ⟨l2, rv2, p2, _⟩ := inv_sqK I1 hqy
      have la := p1.lt
      have lb := p2.lt
      obtain ⟨o1, B1, t1⟩ := beginsK k a l1.toArray
      obtain ⟨o2, B2, t2⟩ := beginsK k2 b l2.toArray
      refine zip_begins2 B1 B2 p1 p2 fun h' hz hTI hTO h1 h2 hsz hk => wpAny_pyIter_zip hz ?_
      have I2 : Inv X pins σ H1 { s1 with heap := h' } := I1.kept (t' := s1.toks) hk
      have hS : ZipSep2 (s1.heap.objs.size + 4) (s1.heap.objs.size + 2) (s1.heap.objs.size + 3) s1.heap.objs.size (s1.heap.objs.size + 1) [s1.heap.objs.size, a] [s1.heap.objs.size + 1, b] :=
        zip_sep2 (fun d hd => by rw [List.mem_singleton.mp hd]; exact la) (fun d hd => by rw [List.mem_singleton.mp hd]; exact lb)
      have na : (a : Nat) ≠ s1.heap.objs.size := Nat.ne_of_lt la
      have nb : (b : Nat) ≠ s1.heap.objs.size + 1 := Nat.ne_of_lt (Nat.lt_succ_of_lt lb)
      refine ⟨s1.heap.objs.size + 4, [s1.heap.objs.size + 4, s1.heap.objs.size + 2, s1.heap.objs.size + 3, s1.heap.objs.size, s1.heap.objs.size + 1], _, _, H1, rfl, I2, turn_zipN k k2 (min xs.length ys.length) hS na nb, ⟨⟨.inl hz, hTI, ⟨_, _, hTO⟩, t1 _ _ h1, t2 _ _ h2⟩, Nat.zero_le _⟩, fun d hd => ?_, q⟩
      have e' : d = s1.heap.objs.size + 4 ∨ d = s1.heap.objs.size + 2 ∨ d = s1.heap.objs.size + 3 ∨ d = s1.heap.objs.size ∨ d = s1.heap.objs.size + 1 := by simpa using hd
      have hle : s1.heap.objs.size ≤ d := by
        rcases e' with z | z | z | z | z
        · rw [z]; exact Nat.le_add_right _ _
        · rw [z]; exact Nat.le_add_right _ _
        · rw [z]; exact Nat.le_add_right _ _
        · rw [z]; exact Nat.le_refl _
        · rw [z]; exact Nat.le_add_right _ _
      exact I1.fpOk hle (I1.hok.fresh hle)
section
variable {X : Cx} {ρ : List (Slot X.K)} {cs : List (Cell X.K)} {α β : Type} {pos : Pos}
theorem ik_zipN (k k2 : Bool) {a b : Expr} {T : Ty X.K α} {U : Ty X.K β} {S1 : Ty X.K (List α)} {S2 : Ty X.K (List β)} {xs : List α} {ys : List β} {P1 P2 : Prop} {nm : Str} {p tpos : Pos} (hm : X.mg "zip" = none)
    (sq1 : ∀ F v x, S1.rep F v x → ∃ a vs, v = .ref a ∧ (∀ H, Same F H → SqK k X.K H a vs) ∧ Rl T F vs x ∧ vs.length ≤ sizeLine) (sq2 : ∀ F v x, S2.rep F v x → ∃ a vs, v = .ref a ∧ (∀ H, Same F H → SqK k2 X.K H a vs) ∧ Rl U F vs x ∧ vs.length ≤ sizeLine)
    (h1 : PK X a ρ cs S1 xs P1) (h2 : PK X b ρ cs S2 ys P2) (hg : Gl X "zip" := by rfl)
    (hs : starEach [a, b] X.env = (false, eval a X.env) :: starEach [b] X.env := by rfl) (hs2 : starEach [b] X.env = (false, eval b X.env) :: starEach [] X.env := by rfl)
    (hpl : (backTo pos (starEach [b] X.env)).any (·.1) = false := by rfl) :
    IK X (.Name nm tpos) (.Call (.Name "zip" p) [a, b] [] pos) ρ cs (tP T U) (xs.zip ys) (P1 ∧ P2) := fun F σ H ok q R kr => by
  refine wi (pi_zipN k k2 hg hm (pa_cons pe_w (pa_cons pe_w pa_nil hs2) hs) hs hpl) ?_
  refine h1 F σ H ok q.1 _ fun v F1 H1 g1 r1 => ?_
  refine h2 F1 σ H1 (ok.grow g1) q.2 _ fun w F2 H2 g2 r2 => ?_
  obtain ⟨a1, vs, e1, q1, rl1, z1⟩ := sq1 _ _ _ (S1.mono g2.ff r1)
  obtain ⟨a2, ws, e2, q2, rl2, z2⟩ := sq2 _ _ _ r2
  have fh := g2.fh
  have ml : min vs.length ws.length = (xs.zip ys).length := by rw [List.length_zip, Rl.length rl1, Rl.length rl2]
  refine ⟨a1, a2, vs, ws, by rw [e1, e2], q1 _ fh, q2 _ fh, kr _ F2 H2 (g1.trans g2) (fun i F4 H4 e4 e5 => ?_) (by rw [← ml]; omega)⟩
  have s1 := q1 _ (e4.trans e5)
  have s2 := q2 _ (e4.trans e5)
  refine ⟨fun z hz => ?_, fun hi => ⟨vs, ws, s1, s2, rfl, by rw [ml]; exact hi⟩⟩
  obtain ⟨hx, hy⟩ := zip_get hz
  obtain ⟨v1, hv1, rv1⟩ := rl_get rl1 hx
  obtain ⟨w1, hw1, rw1⟩ := rl_get rl2 hy
  refine ⟨⟨by rw [ml]; exact (List.getElem?_eq_some_iff.mp hz).1, vs, ws, v1, w1, s1, s2, hv1, hw1⟩, fun v' H5 ⟨t, x', y', ev, hn, eh, hx', hy'⟩ => ?_⟩
  have t1 := (hx' vs s1).symm.trans hv1
  have t2 := (hy' ws s2).symm.trans hw1
  cases t1; cases t2
  subst ev; subst eh
  obtain ⟨g6, r6⟩ := grow_tup2 (T1 := T) (T2 := U) (x := z.1) (y := z.2) e5 hn (T.mono e4 rv1) (U.mono e4 rw1)
  exact ⟨_, g6, r6⟩
end
end MD
namespace MD
open PySem PySem.Spec PyProof.Rows L2
/-! ### a dict whose keys are tuples (int, tuple of ints), told by its record alone -/
abbrev NE3 := NestedKey × Addr × V
abbrev NV : List NE3 → List (NestedKey × Addr × Value) → Prop := Paired fun x v => x.1 = v.1 ∧ x.2.1 = v.2.1 ∧ RelV x.2.2 v.2.2
def RawAt (P : Program) (w : World) (h : Heap) (a : Addr) (vs : List (NestedKey × Addr × Value)) : Prop :=
  ∃ o es ep, h.get? a = some o ∧ o.ExactDict ∧ o.data = .dict es ep ∧ es.toList = vs.map (entryOfKey (nestedKind P w)) ∧ (vs.map (·.1)).Nodup
def rawD (P : Program) (w : World) (a : Addr) (xs : List NE3) : HO := .ext fun h => (a == sysModules) = false ∧ ∃ vs, NV xs vs ∧ RawAt P w h a vs
/-- the tuple at b is the key k -/
def NKey (H : Hp) (k : NestedKey) (b : Addr) : Prop := ∃ (i : Int) (ns : List Int) (c : Addr), k = .tup [.num i, .tup (ns.map .num)] ∧ H b = some (.tup [.int i, .ref c]) ∧ Rd H c (.tup (ns.map .int))
section
variable {X : Cx} {pins : List (Addr × Obj)} {σ : L2.St} {H : Hp} {s : Shared}
theorem nall_ints {h : Heap} : ∀ {ns : List Int} {us : List Value}, Vals (ns.map V.int) us → NestedAll h (ns.map .num) us
  | [], us, r => by
    rw [List.map_nil] at r
    cases r
    exact .nil
  | n :: ns, us, r => by
    rw [List.map_cons] at r
    cases r with
    | cons h t =>
      obtain ⟨t0, e⟩ := h
      subst e
      exact .cons (.int n t0) (nall_ints t)
theorem nkey_is (I : Inv X pins σ H s) {k : NestedKey} {b : Addr} (hk : NKey H k b) : (nestedKind X.prog X.w).is s.heap k b := by
  obtain ⟨i, ns, c, ek, hb, hc⟩ := hk
  obtain ⟨its, rv, p, _⟩ := I.tuple (SqT.of hb)
  obtain ⟨u, y, ei, ru, ry⟩ := vals2 rv
  subst ei
  obtain ⟨t, eu⟩ := ru
  subst eu
  cases ry
  obtain ⟨its2, rv2, p2, _⟩ := I.tuple (.inl hc)
  obtain ⟨o, e1, e2, n1, e3⟩ := p
  obtain ⟨o2, f1, f2, n2, f3⟩ := p2
  subst ek
  refine ⟨.tup e1 e2 e3 (.cons (.int i t) (.cons (.tup f1 f2 f3 (nall_ints rv2)) .nil)), ?_⟩
  have d0 : ∀ ns : List Int, NestedKey.depthAll (ns.map .num) = 0 := fun ns => by
    induction ns with
    | nil => simp [NestedKey.depthAll]
    | cons a ns ih => simp [NestedKey.depthAll, NestedKey.depth, ih]
  simp [NestedKey.depth, NestedKey.depthAll, d0]
theorem raw_obj {P : Program} {w : World} {a : Addr} {xs : List NE3} {H : Hp} {h : Heap} (hd : (a == sysModules) = false) {vs : List (NestedKey × Addr × Value)} (r : NV xs vs) (q : RawAt P w h a vs) : ObjOk P w H h a (rawD P w a xs) := by
  obtain ⟨o, es, ep, h1, h2, h3, h4, h5⟩ := q
  exact ⟨⟨hd, vs, r, o, es, ep, h1, h2, h3, h4, h5⟩, ⟨o, h1⟩, fun g1 g2 ⟨z, vs', r', o', es', ep', k1, k2⟩ keep => ⟨z, vs', r', o', es', ep', keep _ k1, k2⟩⟩
theorem raw_of (I : Inv X pins σ H s) {a : Addr} {xs : List NE3} (e : H a = some (rawD X.prog X.w a xs)) : (a == sysModules) = false ∧ ∃ vs, NV xs vs ∧ RawAt X.prog X.w s.heap a vs := (I.hok a _ e).1
theorem raw_dict (I : Inv X pins σ H s) {a : Addr} {xs : List NE3} (hk : ∀ x ∈ xs, NKey H x.1 x.2.1) {vs : List (NestedKey × Addr × Value)} (r : NV xs vs) (q : RawAt X.prog X.w s.heap a vs) : s.heap.DictOfH (nestedKind X.prog X.w) a vs := by
  obtain ⟨o, es, ep, h1, h2, h3, h4, h5⟩ := q
  refine ⟨o, es, ep, h1, h2, h3, h4, ?_, h5⟩
  clear h4 h5
  induction r with
  | nil => exact fun x hx => (by cases hx)
  | @cons p v ps vs h t ih =>
    intro x hx
    rcases List.mem_cons.mp hx with e | hx
    · rw [e, ← h.1, ← h.2.1]
      exact nkey_is I (hk p List.mem_cons_self)
    · exact ih (fun y hy => hk y (List.mem_cons_of_mem _ hy)) x hx
/-- what stands at a key -/
def atN (xs : List NE3) (k : NestedKey) : Option V := (xs.find? fun x => decide (x.1 = k)).map (·.2.2)
theorem atN_rel {k : NestedKey} : ∀ {xs : List NE3} {vs : List (NestedKey × Addr × Value)}, NV xs vs → (atN xs k = none ∧ atKey vs k = none) ∨ ∃ x p, atN xs k = some x ∧ atKey vs k = some p ∧ RelV x p.2
  | [], [], .nil => .inl ⟨rfl, rfl⟩
  | x :: xs, v :: vs, .cons h t => by
    by_cases c : x.1 = k
    · have c2 : v.1 = k := h.1 ▸ c
      refine .inr ⟨x.2.2, v.2, ?_, ?_, h.2.2⟩
      · unfold atN; rw [List.find?_cons_of_pos (by simp [c])]; rfl
      · unfold atKey; rw [List.find?_cons_of_pos (by simp [c2])]; rfl
    · have c2 : ¬ v.1 = k := fun q => c (h.1.trans q)
      have e1 : atN (x :: xs) k = atN xs k := by unfold atN; rw [List.find?_cons_of_neg (by simp [c])]
      have e2 : atKey (v :: vs) k = atKey vs k := by unfold atKey; rw [List.find?_cons_of_neg (by simp [c2])]
      rw [e1, e2]
      exact atN_rel t
theorem d_sdef {a b : Addr} {k : NestedKey} {xs : List NE3} {y : V} {u : Value} {A : Around} {E : Value → Shared → Prop} {Q : Value → Shared → Prop} (hu : A.units + 9 < cLine) (I : Inv X pins σ H s) (e : H a = some (rawD X.prog X.w a xs)) (hk : ∀ x ∈ xs, NKey H x.1 x.2.1) (kb : NKey H k b) (ru : RelV y u) (hz : xs.length ≤ sizeLine)
    (h1 : ∀ x, atN xs k = some x → ∀ s' w', Inv X pins σ H s' → RelV x w' → Q w' s') (h2 : atN xs k = none → ∀ s', Inv X pins σ (upd H a (rawD X.prog X.w a (xs ++ [(k, b, y)]))) s' → Q u s') :
    wpAny (model X.prog X.w) A (call (.builtin "dict.setdefault") [.ref a, .ref b, u]) Q E s := by
  obtain ⟨hd, vs, r, q⟩ := raw_of I e
  have hl := Paired.length r
  refine call_setdefault_heap (knd := nestedKind X.prog X.w) (k := k) (xs := vs) (show A.in1.units + 8 < cLine by show A.units + 1 + 8 < cLine; omega) (nkey_is I kb) hd (raw_dict I hk r q) (fun p hp => ?_) (fun hn h' hm hs => ?_) (by rw [← hl]; exact hz)
  · rcases atN_rel (k := k) r with ⟨_, c⟩ | ⟨x, p', c1, c2, c3⟩
    · rw [c] at hp; cases hp
    · rw [c2] at hp
      cases hp
      exact h1 x c1 _ _ (I.tok _) c3
  · rcases atN_rel (k := k) r with ⟨c, _⟩ | ⟨x, p', c1, c2, c3⟩
    · rw [storedH_new hn] at hm
      obtain ⟨o, es, ep, g1, g2, g3, g4, _, g5⟩ := hm
      exact h2 c _ (I.write (x := a) (e := a) (by rw [e]; exact True.intro) (.inl rfl) (fun b u hb q => (hs.2 b hb).trans q) ⟨o, g1⟩ (raw_obj hd (Paired.snoc r ⟨rfl, rfl, ru⟩) ⟨o, es, ep, g1, g2, g3, g4, g5⟩))
    · rw [c2] at hn; cases hn
theorem call_len_raw9 : CallR X (.builtin "len") (fun vs H Q => ∃ (a : Addr) (xs : List NE3), vs = [.ref a] ∧ H a = some (rawD X.prog X.w a xs) ∧ xs.length ≤ sizeLine ∧ Q (.int ((xs.length : Nat) : Int)) H) := by
  intro pins s σ H vs us Q I r h
  obtain ⟨a, xs, rfl, e, hz, q⟩ := h
  obtain ⟨u, rfl, rx⟩ := vals1 r
  obtain rfl : u = .ref a := rx
  obtain ⟨hd, ws, rv, o, es, ep, g1, g2, g3, g4, g5⟩ := raw_of I e
  have hl : es.size = xs.length := by
    rw [← Array.length_toList, g4, List.length_map, ← Paired.length rv]
  have hT : s.TypeIs (.ref a) "dict" := ⟨o, g1, g2.1⟩
  refine PyProof.Rows.call_len_slot (n := ((es.size : Nat) : Int)) hT PySem.F.slot_dict_len (fun Q' hq => call_len_raw hd ⟨o, g1, g2, g3⟩ hq) (by omega) (by rw [hl]; rw [sizeLine_eq] at hz; omega) ?_
  rw [hl]
  exact ⟨.int ((xs.length : Nat) : Int), H, I.tok _, ⟨_, rfl⟩, q⟩
end
end MD
namespace MD
open PySem PySem.Spec PyProof.Rows L2
/-! ### an owned dict with keys (int, tuple of ints) and ints as values -/
abbrev Sg := Int × List Int
def kfS (x : Sg) : NestedKey := .tup [.num x.1, .tup (x.2.map .num)]
theorem num_inj : ∀ {xs ys : List Int}, xs.map NestedKey.num = ys.map NestedKey.num → xs = ys
  | [], [], _ => rfl
  | [], _ :: _, h => by cases h
  | _ :: _, [], h => by cases h
  | x :: xs, y :: ys, h => by
    rw [List.map_cons, List.map_cons] at h
    injection h with h1 h2
    injection h1 with h1
    rw [h1, num_inj h2]
theorem kfS_inj {x y : Sg} (h : kfS x = kfS y) : x = y := by
  unfold kfS at h
  injection h with h
  injection h with h1 h2
  injection h1 with h1
  injection h2 with h2 _
  injection h2 with h2
  exact Prod.ext h1 (num_inj h2)
def tSg {K : PySem.W.Frag} : Ty K Sg := tT (tsC tI (ts1 (tU tI)))
theorem rl_intsS {K : PySem.W.Frag} {F : Hp} : ∀ {vs : List V} {ns : List Int}, Rl (tI (K := K)) F vs ns → vs = ns.map V.int
  | _, _, .nil => rfl
  | _, _, .cons r t => by
    have r : _ = V.int _ := r
    rw [r, rl_intsS t]
    rfl
theorem sg_key {K : PySem.W.Frag} {F : Hp} {v : V} {x : Sg} (h : (tSg (K := K)).rep F v x) : ∃ b, v = .ref b ∧ NKey F (kfS x) b := by
  obtain ⟨a, vs, e, hF, u, r, e1, h1, u2, e2, c, ws, e3, hc, rl, _⟩ := h
  have h1 : u = .int x.1 := h1
  refine ⟨a, e, x.1, x.2, c, rfl, ?_, ?_⟩
  · rw [hF, e1, e2, h1, e3]
  · rw [← rl_intsS rl]
    exact hc
theorem nkey_mono {F F' : Hp} (s : Same F F') {k : NestedKey} {b : Addr} (h : NKey F k b) : NKey F' k b := by
  obtain ⟨i, ns, c, h1, h2, h3⟩ := h
  exact ⟨i, ns, c, h1, s _ _ h2, same_rd s h3⟩
abbrev EntS (F : Hp) : NE3 → Sg × Int → Prop := fun x kv => x.1 = kfS kv.1 ∧ NKey F x.1 x.2.1 ∧ x.2.2 = .int kv.2
def cDn {K : PySem.W.Frag} (P : Program) (w : World) (a : Addr) (kvs : List (Sg × Int)) : CK K := ⟨fun F o => ∃ xs, o = rawD P w a xs ∧ Paired (EntS F) xs kvs ∧ xs.length ≤ sizeLine, fun e ⟨xs, h, r, z⟩ => ⟨xs, h, paired_mono (fun _ _ ⟨h1, h2, h3⟩ => ⟨h1, nkey_mono e h2, h3⟩) r, z⟩⟩
theorem atN_val {F : Hp} {x : Sg} : ∀ {xs : List NE3} {kvs : List (Sg × Int)}, Paired (EntS F) xs kvs → atN xs (kfS x) = (dget kvs x).map V.int
  | [], [], .nil => rfl
  | e :: xs, p :: kvs, .cons h t => by
    obtain ⟨h1, _, h3⟩ := h
    by_cases c : p.1 = x
    · have c2 : e.1 = kfS x := by rw [h1, c]
      unfold atN dget
      rw [List.find?_cons_of_pos (by simp [c2]), List.find?_cons_of_pos (by simp [c])]
      show some e.2.2 = some (V.int p.2)
      rw [h3]
    · have c2 : ¬ e.1 = kfS x := fun q => c (kfS_inj (h1.symm.trans q))
      have e1 : atN (e :: xs) (kfS x) = atN xs (kfS x) := by unfold atN; rw [List.find?_cons_of_neg (by simp [c2])]
      have e2 : dget (p :: kvs) x = dget kvs x := by unfold dget; rw [List.find?_cons_of_neg (by simp [c])]
      rw [e1, e2]
      exact atN_val t
theorem ents_keys {F H : Hp} (s : Same F H) : ∀ {xs : List NE3} {kvs : List (Sg × Int)}, Paired (EntS F) xs kvs → ∀ x ∈ xs, NKey H x.1 x.2.1
  | _, _, .nil => fun x hx => (by cases hx)
  | _, _, .cons (a := e) h t => fun x hx => by
    rcases List.mem_cons.mp hx with q | q
    · rw [q]; exact nkey_mono s h.2.1
    · exact ents_keys s t x q
section
variable {X : Cx} {fl : Hp} {B : Hb X.K} {Y : Ec X.K} {ρ : List (Slot X.K)} {cs : List (Cell X.K)} {α μ : Type} {pos : Pos} {rest : List Stmt} {D : Ends} {e : Expr}
theorem pe_dnewX : PE X (.Dict [] [] pos) (fun _ H Q => ∀ p, H p = none → Q (.ref p) (upd H p (rawD X.prog X.w p []))) := ⟨fun pins s σ H Q I h =>
  wpAny_Dict_empty ⟨.ref s.heap.objs.size, _, I.laid (a := s.heap.objs.size) (o := rawD X.prog X.w s.heap.objs.size []) (t' := s.toks) (fun _ _ q => Heap.get?_push_of_some _ q) (Nat.le_refl _)
    (raw_obj (beq_eq_false_iff_ne.mpr (Ne.symm (Nat.ne_of_lt I.big))) .nil ⟨_, #[], 0, Heap.get?_push_size _ rfl, ⟨rfl, rfl, rfl⟩, rfl, rfl, List.nodup_nil⟩), rfl, h _ (I.hok.fresh (Nat.le_refl _))⟩⟩
theorem newDn_mv {F H : Hp} {σ : L2.St} {a : Addr} (ok : Okc ρ cs F σ H) (ha : H a = none) : Mv cs F H (cs ++ [⟨a, cDn X.prog X.w a []⟩]) F (upd H a (rawD X.prog X.w a [])) := by
  have g := grow_upd (o := rawD X.prog X.w a []) (Grow.refl ok.same) ha
  have m := ok.grow g.1
  refine ⟨m.ff, m.fh, m.fr, m.kp, fun c hc => ?_, ?_, fun c hc => ?_, m.st⟩
  · rcases List.mem_append.mp hc with hc | hc
    · exact m.cell c hc
    · obtain rfl := List.mem_singleton.mp hc
      exact ⟨g.2, _, upd_same, [], rfl, .nil, Nat.zero_le _⟩
  · rw [List.map_append]
    refine List.nodup_append.mpr ⟨m.nd, by simp, fun x hx y hy => ?_⟩
    obtain ⟨c, hc, rfl⟩ := List.mem_map.mp hx
    have : y = a := by simpa using hy
    rw [this]
    intro e
    obtain ⟨_, o, e1, _⟩ := ok.cell c hc
    rw [e, ha] at e1; cases e1
  · rcases List.mem_append.mp hc with hc | hc
    · exact m.nw c hc
    · obtain rfl := List.mem_singleton.mp hc
      exact .inr ha
theorem sk_setDn {i : Nat} {nm : Str} {pos' p2 : Pos} {φ : Addr → Prop} (hN : X.N.Nodup) (k : ∀ a, SK X B Y fl rest (ρ.set i (.val tR a)) (cs ++ [⟨a, cDn X.prog X.w a []⟩]) D (φ a)) (hi : X.N[i]? = some nm := by rfl)
    (hx : Loc X.env.scope nm := by first | exact Or.inl rfl | exact Or.inr rfl) (hs : swapsWith (.Dict [] [] p2) (some (.Name nm pos')) pos.line X.env = pure false := by rfl) (hf : X.fn nm = true ∨ X.env.scope.names.lookup nm = some .local := by first | exact .inl rfl | exact .inr rfl) :
    SK X B Y fl (.Assign [.Name nm pos'] (.Dict [] [] p2) pos :: rest) ρ cs D (∀ a, φ a) := fun F σ H ok p W tk hx' => by
  refine wb (pss_cons (ps_set hN hi hx pe_dnewX hs hf) pss_w) ?_
  intro a ha
  exact k a F _ _ ((ok.to (newDn_mv ok.c ha)).set (T := tR) i rfl) (p a) W tk hx'
def rDn (P : Program) (w : World) (n : Nat) : Vw := fun _ H v => ∃ (a : Addr) (xs : List NE3), v = .ref a ∧ H a = some (rawD P w a xs) ∧ xs.length = n ∧ n ≤ sizeLine
theorem PK.ownDn {l : Addr} {kvs : List (Sg × Int)} {P : Prop} (j : Nat) (h : PK X e ρ cs tR l P) (hc : cs[j]? = Option.some ⟨l, cDn X.prog X.w l kvs⟩) : PV X e ρ cs (rDn X.prog X.w kvs.length) P := fun F σ H ok p Q q => h F σ H ok p Q fun v F' H' g h1 => by
  obtain ⟨o, ho, xs, e, r, z⟩ := (ok.grow g).cell _ (List.mem_of_getElem? hc)
  subst e
  exact q v F' H' g ⟨l, xs, h1, ho, Paired.length r, by rw [← Paired.length r]; exact z⟩
theorem u_lenDn {n : Nat} : U1 (fun vs H Q => ∃ (a : Addr) (xs : List NE3), vs = [.ref a] ∧ H a = some (rawD X.prog X.w a xs) ∧ xs.length ≤ sizeLine ∧ Q (.int ((xs.length : Nat) : Int)) H) (rDn X.prog X.w n) True (sv (tI (K := X.K)) (n : Int)) := fun F H v s ⟨a, xs, e, h, hl, hz⟩ _ Q k =>
  ⟨a, xs, by rw [e], h, by rw [hl]; exact hz, k _ F H (Grow.refl s) (by rw [hl]; rfl)⟩
/-- d.setdefault(k, x) -/
theorem pe_sdef {o f g : Expr} {apos cpos : Pos} {td ty tx : TE} {k0 : Nat} (hr : Room k0 X.A) (ho : PE X o td) (he : PE X f ty) (hf : PE X g tx) (m : M2 X o "setdefault" apos f g cpos) :
    PE X (.Call (.Attribute o "setdefault" apos) [f, g] [] cpos) (fun σ H Q => td σ H fun x H1 => ∃ a, x = .ref a ∧ (∃ xs, H1 a = some (rawD X.prog X.w a xs)) ∧ ty σ H1 fun y H2 => tx σ H2 fun z H3 => ∃ b k xs, y = .ref b ∧ H3 a = some (rawD X.prog X.w a xs) ∧ (∀ x ∈ xs, NKey H3 x.1 x.2.1) ∧ NKey H3 k b ∧ xs.length ≤ sizeLine ∧
      (∀ x, atN xs k = some x → Q x H3) ∧ (atN xs k = none → Q z (upd H3 a (rawD X.prog X.w a (xs ++ [(k, b, z)]))))) := by
  refine ⟨fun pins s σ H Q I h => ?_⟩
  refine wpAny_Call_method m.base m.few m.line PySem.F.plainAttrs_dict PySem.F.slot_dict_setdefault PySem.F.type_dict_setdefault (thn (ho.run pins s σ H _ I h) fun u s1 ⟨x, H1, I1, rx, a, ex, ⟨xs0, hx0⟩, q1⟩ => ?_)
  subst ex
  obtain rfl : u = Value.ref a := rx
  obtain ⟨_, vs0, _, o0, es0, ep0, g1, g2, _⟩ := raw_of I1 hx0
  refine ⟨⟨o0, g1, g2.1⟩, fun b q => (by cases q; exact ⟨o0, g1, g2.2.1⟩), ?_⟩
  rw [m.trees]
  refine Calls.callWith_builtin rfl (Calls.evalArgs_plain (Calls.spliced_cons (thn (he.run pins s1 σ H1 _ I1 q1) fun iv s2 ⟨y, H2, I2, ry, q2⟩ =>
    Calls.spliced_cons (thn (hf.run pins s2 σ H2 _ I2 q2) fun fv s3 ⟨z, H3, I3, rz, b, k, xs, ey, e3, hk, kb, hz, c1, c2⟩ => Calls.spliced_nil ?_))))
  subst ey
  obtain rfl : iv = Value.ref b := ry
  exact d_sdef (by have := hr.un; omega) I3 e3 hk kb rz hz (fun x hx s' w' I' rw' => ⟨x, H3, I', rw', c1 x hx⟩) fun hn s' I' => ⟨z, _, I', rz, c2 hn⟩
def addS (kvs : List (Sg × Int)) (x : Sg) (n : Int) : List (Sg × Int) := if (dget kvs x).isSome then kvs else kvs ++ [(x, n)]
theorem ek_sdef {o f g : Expr} {apos cpos : Pos} {l : Addr} {kvs : List (Sg × Int)} {x : Sg} {n : Int} {P1 P2 P3 : Prop} {k0 : Nat} (j : Nat) (hr : Room k0 X.A) (ho : PK X o ρ cs tR l P1) (hf : PK X f ρ cs tSg x P2) (hg : PK X g ρ cs tI n P3) (hc : cs[j]? = some ⟨l, cDn X.prog X.w l kvs⟩)
    (m : M2 X o "setdefault" apos f g cpos := by exact ⟨rfl, rfl, rfl, rfl⟩) :
    EK X Y (.Call (.Attribute o "setdefault" apos) [f, g] [] cpos) ρ cs tI (fun _ : List (Sg × Int) => (dget kvs x).getD n) (fun z => cs.set j ⟨l, cDn X.prog X.w l z⟩) (fun φ => (P1 ∧ P2 ∧ P3 ∧ kvs.length < sizeLine) ∧ ∀ z, z = addS kvs x n → φ z) := fun F σ H ok xh φ p Q k => by
  refine we (pe_sdef hr pe_w pe_w pe_w m) ?_
  refine ho F σ H ok.w p.1.1 _ fun v1 F1 H1 g1 r1 => ?_
  have r1 : v1 = .ref l := r1
  subst r1
  have ok1 := ok.mv (ok.grow g1)
  obtain ⟨_, ob1, hob1, xs1, e1, _⟩ := ok1.cell _ (List.mem_of_getElem? hc)
  subst e1
  refine ⟨l, rfl, ⟨xs1, hob1⟩, ?_⟩
  refine hf F1 σ H1 ok1.w p.1.2.1 _ fun v2 F2 H2 g2 r2 => ?_
  have ok2 := ok1.mv (ok1.grow g2)
  refine hg F2 σ H2 ok2.w p.1.2.2.1 _ fun v3 F3 H3 g3 r3 => ?_
  have r3 : v3 = .int n := r3
  subst r3
  have ok3 := ok2.mv (ok2.grow g3)
  obtain ⟨b, eb, kb⟩ := sg_key (tSg.mono g3.ff r2)
  obtain ⟨hn, ob, hob, xs, e3, r, z⟩ := ok3.cell _ (List.mem_of_getElem? hc)
  subst e3
  have fh : Same F3 H3 := ok3.same
  have m3 := ((ok.grow g1).trans (ok1.grow g2)).trans (ok2.grow g3)
  refine ⟨b, kfS x, xs, eb, hob, ents_keys fh r, nkey_mono fh kb, z, fun y hy => ?_, fun hy => ?_⟩
  · rw [atN_val r] at hy
    cases q : dget kvs x with
    | none => rw [q] at hy; cases hy
    | some d =>
      rw [q] at hy
      have hy : V.int d = y := Option.some.inj hy
      have e4 : addS kvs x n = kvs := by unfold addS; rw [q]; rfl
      have cset : cs.set j ⟨l, cDn X.prog X.w l kvs⟩ = cs := by
        obtain ⟨hj, e5⟩ := List.getElem?_eq_some_iff.mp hc
        rw [← e5]
        exact List.set_getElem_self hj
      exact k kvs y F3 H3 (by show Mv cs F H (cs.set j ⟨l, cDn X.prog X.w l kvs⟩) F3 H3; rw [cset]; exact m3) (by rw [← hy, q]; rfl) (p.2 _ e4.symm)
  · rw [atN_val r] at hy
    have q : dget kvs x = none := Option.map_eq_none_iff.mp hy
    have e4 : addS kvs x n = kvs ++ [(x, n)] := by unfold addS; rw [q]; rfl
    have hl : (xs ++ [(kfS x, b, V.int n)]).length ≤ sizeLine := by
      rw [List.length_append, Paired.length r]
      exact p.1.2.2.2
    exact k (kvs ++ [(x, n)]) _ F3 _ (m3.trans (mv_upd (k := cDn X.prog X.w l (kvs ++ [(x, n)])) ok3 hc ⟨_, rfl, Paired.snoc r ⟨rfl, kb, rfl⟩, hl⟩)) (by rw [q]; rfl) (p.2 _ e4.symm)
end
end MD
namespace MD
open PySem PySem.Spec PyProof.Rows L2
/-! ### an owned dict with truths as keys and ints as values -/
def kfB (b : Bool) : Leaf := .num (if b = true then 1 else 0)
theorem kfB_inj {a b : Bool} (h : kfB a = kfB b) : a = b := by
  unfold kfB at h
  injection h with h
  cases a <;> cases b <;> first | rfl | (simp at h)
abbrev BV : List (Bool × Int) → List (Leaf × Value) → Prop := Paired fun x v => kfB x.1 = v.1 ∧ RelV (.int x.2) v.2
def rawB (P : Program) (w : World) (a : Addr) (kvs : List (Bool × Int)) : HO := .ext fun h => (a == sysModules) = false ∧ ∃ vs, BV kvs vs ∧ h.DictOf (leafKind P w) a vs
def cDb {K : PySem.W.Frag} (P : Program) (w : World) (a : Addr) (kvs : List (Bool × Int)) : CK K := ⟨fun _ o => o = rawB P w a kvs ∧ kvs.length ≤ sizeLine, fun _ h => h⟩
theorem vb_val {x : Bool} : ∀ {kvs : List (Bool × Int)} {vs : List (Leaf × Value)}, BV kvs vs → (dget kvs x = none ∧ valueAt vs (kfB x) = none) ∨ ∃ n u, dget kvs x = some n ∧ valueAt vs (kfB x) = some u ∧ RelV (.int n) u
  | [], [], .nil => .inl ⟨rfl, rfl⟩
  | p :: kvs, v :: vs, .cons h t => by
    by_cases c : p.1 = x
    · have c2 : v.1 = kfB x := by rw [← h.1, c]
      refine .inr ⟨p.2, v.2, ?_, ?_, h.2⟩
      · unfold dget; rw [List.find?_cons_of_pos (by simp [c])]; rfl
      · unfold valueAt; rw [List.find?_cons_of_pos (by simp [c2])]; rfl
    · have c2 : ¬ v.1 = kfB x := fun q => c (kfB_inj (h.1.trans q))
      have e1 : dget (p :: kvs) x = dget kvs x := by unfold dget; rw [List.find?_cons_of_neg (by simp [c])]
      have e2 : valueAt (v :: vs) (kfB x) = valueAt vs (kfB x) := by unfold valueAt; rw [List.find?_cons_of_neg (by simp [c2])]
      rw [e1, e2]
      exact vb_val t
theorem stored_new {vs : List (Leaf × Value)} {k : Leaf} {u : Value} (h : valueAt vs k = none) : stored vs k u = vs ++ [(k, u)] := by
  unfold stored
  rw [if_neg]
  intro e
  obtain ⟨q, hq, hx⟩ := List.any_eq_true.mp e
  unfold valueAt at h
  exact List.find?_eq_none.mp (Option.map_eq_none_iff.mp h) q hq (by simpa using hx)
section
variable {X : Cx} {pins : List (Addr × Obj)} {σ : L2.St} {H : Hp} {s : Shared}
theorem rawB_of (I : Inv X pins σ H s) {a : Addr} {kvs : List (Bool × Int)} (e : H a = some (rawB X.prog X.w a kvs)) : (a == sysModules) = false ∧ ∃ vs, BV kvs vs ∧ s.heap.DictOf (leafKind X.prog X.w) a vs := (I.hok a _ e).1
theorem rawB_obj {P : Program} {w : World} {a : Addr} {kvs : List (Bool × Int)} {H : Hp} {h : Heap} (hd : (a == sysModules) = false) {vs : List (Leaf × Value)} (r : BV kvs vs) (q : h.DictOf (leafKind P w) a vs) : ObjOk P w H h a (rawB P w a kvs) := by
  refine ⟨⟨hd, vs, r, q⟩, ?_, fun g1 g2 ⟨z, vs', r', o', es', ep', k1, k2⟩ keep => ⟨z, vs', r', o', es', ep', keep _ k1, k2⟩⟩
  obtain ⟨o, es, ep, h1, _⟩ := q
  exact ⟨o, h1⟩
theorem d_sdefB {a : Addr} {b : Bool} {kvs : List (Bool × Int)} {n : Int} {u : Value} {A : Around} {E : Value → Shared → Prop} {Q : Value → Shared → Prop} (I : Inv X pins σ H s) (e : H a = some (rawB X.prog X.w a kvs)) (ru : RelV (.int n) u) (hz : kvs.length ≤ sizeLine)
    (h1 : ∀ m, dget kvs b = some m → ∀ s' w', Inv X pins σ H s' → RelV (.int m) w' → Q w' s') (h2 : dget kvs b = none → ∀ s', Inv X pins σ (upd H a (rawB X.prog X.w a (kvs ++ [(b, n)]))) s' → Q u s') :
    wpAny (model X.prog X.w) A (call (.builtin "dict.setdefault") [.ref a, .bool b, u]) Q E s := by
  obtain ⟨hd, vs, r, q⟩ := rawB_of I e
  have hl := Paired.length r
  have key : (leafKind X.prog X.w).is (kfB b) (.bool b) = true := by
    show decide ((if b = true then (1 : Int) else 0) = if b = true then 1 else 0) = true
    exact decide_eq_true rfl
  refine call_meetsIn PySem.F.slot_dict_setdefault q.typeIs PySem.F.entry_dict_setdefault (PySem.F.args_dict_setdefault_3 _ _ _) (kt_meets_setdefault (leafKind X.prog X.w) a key hd u) ⟨vs, q, by rw [← hl]; exact hz, fun v hv => ?_, fun hn h' hm hs => ?_⟩
  · rcases vb_val (x := b) r with ⟨_, c⟩ | ⟨m, p', c1, c2, c3⟩
    · rw [c] at hv; cases hv
    · rw [c2] at hv
      cases hv
      exact h1 m c1 _ _ (I.tok _) c3
  · rcases vb_val (x := b) r with ⟨c, _⟩ | ⟨m, p', c1, c2, c3⟩
    · rw [stored_new hn] at hm
      have he : ∃ q, h'.get? a = some q := by
        obtain ⟨o, _, _, g1, _⟩ := hm
        exact ⟨o, g1⟩
      exact h2 c _ (I.write (x := a) (e := a) (by rw [e]; exact True.intro) (.inl rfl) (fun b u hb q => (hs.2 b hb).trans q) he (rawB_obj hd (Paired.snoc r ⟨rfl, ru⟩) hm))
    · rw [c2] at hn; cases hn
theorem call_len_rawB : CallR X (.builtin "len") (fun vs H Q => ∃ (a : Addr) (kvs : List (Bool × Int)), vs = [.ref a] ∧ H a = some (rawB X.prog X.w a kvs) ∧ kvs.length ≤ sizeLine ∧ Q (.int ((kvs.length : Nat) : Int)) H) := by
  intro pins s σ H vs us Q I r h
  obtain ⟨a, kvs, rfl, e, hz, q⟩ := h
  obtain ⟨u, rfl, rx⟩ := vals1 r
  obtain rfl : u = .ref a := rx
  obtain ⟨hd, ws, rv, dd⟩ := rawB_of I e
  obtain ⟨o, es, ep, g1, g2, g3, _, g4, _⟩ := id dd
  have hl : es.size = kvs.length := by
    rw [← Array.length_toList, Paired.length rv]
    exact g4.length
  refine PyProof.Rows.call_len_slot (n := ((es.size : Nat) : Int)) dd.typeIs PySem.F.slot_dict_len (fun Q' hq => call_len_raw hd ⟨o, g1, g2, g3⟩ hq) (by omega) (by rw [hl]; rw [sizeLine_eq] at hz; omega) ?_
  rw [hl]
  exact ⟨.int ((kvs.length : Nat) : Int), H, I.tok _, ⟨_, rfl⟩, q⟩
end
section
variable {X : Cx} {fl : Hp} {B : Hb X.K} {Y : Ec X.K} {ρ : List (Slot X.K)} {cs : List (Cell X.K)} {α μ : Type} {pos : Pos} {rest : List Stmt} {D : Ends} {e : Expr}
theorem pe_dnewB : PE X (.Dict [] [] pos) (fun _ H Q => ∀ p, H p = none → Q (.ref p) (upd H p (rawB X.prog X.w p []))) := ⟨fun pins s σ H Q I h =>
  wpAny_Dict_empty ⟨.ref s.heap.objs.size, _, I.laid (a := s.heap.objs.size) (o := rawB X.prog X.w s.heap.objs.size []) (t' := s.toks) (fun _ _ q => Heap.get?_push_of_some _ q) (Nat.le_refl _)
    (rawB_obj (beq_eq_false_iff_ne.mpr (Ne.symm (Nat.ne_of_lt I.big))) .nil (Heap.DictOf.new s.heap)), rfl, h _ (I.hok.fresh (Nat.le_refl _))⟩⟩
theorem newDb_mv {F H : Hp} {σ : L2.St} {a : Addr} (ok : Okc ρ cs F σ H) (ha : H a = none) : Mv cs F H (cs ++ [⟨a, cDb X.prog X.w a []⟩]) F (upd H a (rawB X.prog X.w a [])) := by
  have g := grow_upd (o := rawB X.prog X.w a []) (Grow.refl ok.same) ha
  have m := ok.grow g.1
  refine ⟨m.ff, m.fh, m.fr, m.kp, fun c hc => ?_, ?_, fun c hc => ?_, m.st⟩
  · rcases List.mem_append.mp hc with hc | hc
    · exact m.cell c hc
    · obtain rfl := List.mem_singleton.mp hc
      exact ⟨g.2, _, upd_same, rfl, Nat.zero_le _⟩
  · rw [List.map_append]
    refine List.nodup_append.mpr ⟨m.nd, by simp, fun x hx y hy => ?_⟩
    obtain ⟨c, hc, rfl⟩ := List.mem_map.mp hx
    have : y = a := by simpa using hy
    rw [this]
    intro e
    obtain ⟨_, o, e1, _⟩ := ok.cell c hc
    rw [e, ha] at e1; cases e1
  · rcases List.mem_append.mp hc with hc | hc
    · exact m.nw c hc
    · obtain rfl := List.mem_singleton.mp hc
      exact .inr ha
theorem sk_setDb {i : Nat} {nm : Str} {pos' p2 : Pos} {φ : Addr → Prop} (hN : X.N.Nodup) (k : ∀ a, SK X B Y fl rest (ρ.set i (.val tR a)) (cs ++ [⟨a, cDb X.prog X.w a []⟩]) D (φ a)) (hi : X.N[i]? = some nm := by rfl)
    (hx : Loc X.env.scope nm := by first | exact Or.inl rfl | exact Or.inr rfl) (hs : swapsWith (.Dict [] [] p2) (some (.Name nm pos')) pos.line X.env = pure false := by rfl) (hf : X.fn nm = true ∨ X.env.scope.names.lookup nm = some .local := by first | exact .inl rfl | exact .inr rfl) :
    SK X B Y fl (.Assign [.Name nm pos'] (.Dict [] [] p2) pos :: rest) ρ cs D (∀ a, φ a) := fun F σ H ok p W tk hx' => by
  refine wb (pss_cons (ps_set hN hi hx pe_dnewB hs hf) pss_w) ?_
  intro a ha
  exact k a F _ _ ((ok.to (newDb_mv ok.c ha)).set (T := tR) i rfl) (p a) W tk hx'
def rDb (P : Program) (w : World) (n : Nat) : Vw := fun _ H v => ∃ (a : Addr) (kvs : List (Bool × Int)), v = .ref a ∧ H a = some (rawB P w a kvs) ∧ kvs.length = n ∧ n ≤ sizeLine
theorem pv_ownDb {l : Addr} {kvs : List (Bool × Int)} {P : Prop} (j : Nat) (h : PK X e ρ cs tR l P) (hc : cs[j]? = some ⟨l, cDb X.prog X.w l kvs⟩) : PV X e ρ cs (rDb X.prog X.w kvs.length) P := fun F σ H ok p Q q => h F σ H ok p Q fun v F' H' g h1 => by
  obtain ⟨o, ho, e, z⟩ := (ok.grow g).cell _ (List.mem_of_getElem? hc)
  subst e
  exact q v F' H' g ⟨l, kvs, h1, ho, rfl, z⟩
theorem u_lenDb {n : Nat} : U1 (fun vs H Q => ∃ (a : Addr) (kvs : List (Bool × Int)), vs = [.ref a] ∧ H a = some (rawB X.prog X.w a kvs) ∧ kvs.length ≤ sizeLine ∧ Q (.int ((kvs.length : Nat) : Int)) H) (rDb X.prog X.w n) True (sv (tI (K := X.K)) (n : Int)) := fun F H v s ⟨a, xs, e, h, hl, hz⟩ _ Q k =>
  ⟨a, xs, by rw [e], h, by rw [hl]; exact hz, k _ F H (Grow.refl s) (by rw [hl]; rfl)⟩
theorem pe_sdefB {o f g : Expr} {apos cpos : Pos} {td ty tx : TE} (ho : PE X o td) (he : PE X f ty) (hf : PE X g tx) (m : M2 X o "setdefault" apos f g cpos) :
    PE X (.Call (.Attribute o "setdefault" apos) [f, g] [] cpos) (fun σ H Q => td σ H fun x H1 => ∃ a, x = .ref a ∧ (∃ kvs, H1 a = some (rawB X.prog X.w a kvs)) ∧ ty σ H1 fun y H2 => tx σ H2 fun z H3 => ∃ b n kvs, y = .bl b ∧ z = .int n ∧ H3 a = some (rawB X.prog X.w a kvs) ∧ kvs.length ≤ sizeLine ∧
      (∀ m, dget kvs b = some m → Q (.int m) H3) ∧ (dget kvs b = none → Q z (upd H3 a (rawB X.prog X.w a (kvs ++ [(b, n)]))))) := by
  refine ⟨fun pins s σ H Q I h => ?_⟩
  refine wpAny_Call_method m.base m.few m.line PySem.F.plainAttrs_dict PySem.F.slot_dict_setdefault PySem.F.type_dict_setdefault (thn (ho.run pins s σ H _ I h) fun u s1 ⟨x, H1, I1, rx, a, ex, ⟨xs0, hx0⟩, q1⟩ => ?_)
  subst ex
  obtain rfl : u = Value.ref a := rx
  obtain ⟨_, vs0, _, o0, es0, ep0, g1, g2, _⟩ := rawB_of I1 hx0
  refine ⟨⟨o0, g1, g2.1⟩, fun b q => (by cases q; exact ⟨o0, g1, g2.2.1⟩), ?_⟩
  rw [m.trees]
  refine Calls.callWith_builtin rfl (Calls.evalArgs_plain (Calls.spliced_cons (thn (he.run pins s1 σ H1 _ I1 q1) fun iv s2 ⟨y, H2, I2, ry, q2⟩ =>
    Calls.spliced_cons (thn (hf.run pins s2 σ H2 _ I2 q2) fun fv s3 ⟨z, H3, I3, rz, b, n, kvs, ey, ez, e3, hz, c1, c2⟩ => Calls.spliced_nil ?_))))
  subst ey
  subst ez
  obtain rfl : iv = Value.bool b := ry
  exact d_sdefB I3 e3 rz hz (fun x hx s' w' I' rw' => ⟨_, H3, I', rw', c1 x hx⟩) fun hn s' I' => ⟨_, _, I', rz, c2 hn⟩
def addB (kvs : List (Bool × Int)) (x : Bool) (n : Int) : List (Bool × Int) := if (dget kvs x).isSome then kvs else kvs ++ [(x, n)]
theorem ek_sdefB {o f g : Expr} {apos cpos : Pos} {l : Addr} {kvs : List (Bool × Int)} {x : Bool} {n : Int} {P1 P2 P3 : Prop} (j : Nat) (ho : PK X o ρ cs tR l P1) (hf : PK X f ρ cs tB x P2) (hg : PK X g ρ cs tI n P3) (hc : cs[j]? = some ⟨l, cDb X.prog X.w l kvs⟩)
    (m : M2 X o "setdefault" apos f g cpos := by exact ⟨rfl, rfl, rfl, rfl⟩) :
    EK X Y (.Call (.Attribute o "setdefault" apos) [f, g] [] cpos) ρ cs tI (fun _ : List (Bool × Int) => (dget kvs x).getD n) (fun z => cs.set j ⟨l, cDb X.prog X.w l z⟩) (fun φ => (P1 ∧ P2 ∧ P3 ∧ kvs.length < sizeLine) ∧ ∀ z, z = addB kvs x n → φ z) := fun F σ H ok xh φ p Q k => by
  refine we (pe_sdefB pe_w pe_w pe_w m) ?_
  refine ho F σ H ok.w p.1.1 _ fun v1 F1 H1 g1 r1 => ?_
  have r1 : v1 = .ref l := r1
  subst r1
  have ok1 := ok.mv (ok.grow g1)
  obtain ⟨_, ob1, hob1, e1, _⟩ := ok1.cell _ (List.mem_of_getElem? hc)
  subst e1
  refine ⟨l, rfl, ⟨kvs, hob1⟩, ?_⟩
  refine hf F1 σ H1 ok1.w p.1.2.1 _ fun v2 F2 H2 g2 r2 => ?_
  have r2 : v2 = .bl x := r2
  subst r2
  have ok2 := ok1.mv (ok1.grow g2)
  refine hg F2 σ H2 ok2.w p.1.2.2.1 _ fun v3 F3 H3 g3 r3 => ?_
  have r3 : v3 = .int n := r3
  subst r3
  have ok3 := ok2.mv (ok2.grow g3)
  obtain ⟨hn, ob, hob, e3, z⟩ := ok3.cell _ (List.mem_of_getElem? hc)
  subst e3
  have m3 := ((ok.grow g1).trans (ok1.grow g2)).trans (ok2.grow g3)
  refine ⟨x, n, kvs, rfl, rfl, hob, z, fun d hy => ?_, fun q => ?_⟩
  · have e4 : addB kvs x n = kvs := by unfold addB; rw [hy]; rfl
    have cset : cs.set j ⟨l, cDb X.prog X.w l kvs⟩ = cs := by
      obtain ⟨hj, e5⟩ := List.getElem?_eq_some_iff.mp hc
      rw [← e5]
      exact List.set_getElem_self hj
    exact k kvs _ F3 H3 (by show Mv cs F H (cs.set j ⟨l, cDb X.prog X.w l kvs⟩) F3 H3; rw [cset]; exact m3) (by rw [hy]; rfl) (p.2 _ e4.symm)
  · have e4 : addB kvs x n = kvs ++ [(x, n)] := by unfold addB; rw [q]; rfl
    exact k (kvs ++ [(x, n)]) _ F3 _ (m3.trans (mv_upd (k := cDb X.prog X.w l (kvs ++ [(x, n)])) ok3 hc ⟨rfl, by rw [List.length_append]; exact p.1.2.2.2⟩)) (by rw [q]; rfl) (p.2 _ e4.symm)
end
end MD
namespace MD
open PySem PySem.Spec PyProof.Rows L2
/-! ### tuples of one type that are plain for sure: keys of dicts -/
section
variable {K : PySem.W.Frag} {α : Type}
def tUp (T : Ty K α) : Ty K (List α) := ⟨fun F v xs => ∃ a vs, v = .ref a ∧ F a = some (.tup vs) ∧ Rl T F vs xs ∧ vs.length ≤ sizeLine, fun e ⟨a, vs, h1, h2, h3, h4⟩ => ⟨a, vs, h1, e _ _ h2, h3.mono e, h4⟩⟩
theorem rl_intV {F : Hp} : ∀ {vs : List V} {xs : List Int}, Rl (tI (K := K)) F vs xs → vs = (xs.map Sum.inl).map kV
  | [], [], .nil => rfl
  | v :: vs, x :: xs, .cons h t => by
    have h : v = .int x := h
    rw [h, rl_intV t]
    rfl
def kUI : KTt (tUp (tI (K := K))) := ⟨fun x => x.map .inl, fun x y h => by
  have := congrArg (List.map fun k : Key => match k with | .inl n => n | .inr _ => 0) h
  rw [List.map_map, List.map_map] at this
  have e : ((fun k : Key => match k with | .inl n => n | .inr _ => (0 : Int)) ∘ Sum.inl) = id := rfl
  rw [e, List.map_id, List.map_id] at this
  exact this, fun F v x ⟨a, vs, e, h, r, _⟩ => ⟨a, e, by rw [h, rl_intV r]⟩⟩
end
section
variable {X : Cx} {fl : Hp} {B : Hb X.K} {Y : Ec X.K} {ρ : List (Slot X.K)} {cs : List (Cell X.K)} {α β γ κ μ ν : Type} {pos : Pos} {rest : List Stmt} {D : Ends} {e : Expr}
theorem ek_tupU1p {x1} {T : Ty X.K α} {vl : μ → α} {cs' : μ → List (Cell X.K)} {M : (μ → Prop) → Prop} (h : EK X Y e ρ cs T vl cs' M) (hs : starEach (e :: []) X.env = (false, eval e X.env) :: starEach [] X.env := by rfl) : EK X Y (.Tuple [e] x1 pos) ρ cs (tUp T) (fun y => [vl y]) cs' M := fun F σ H ok xh φ p Q k => by
  refine we (pe_tup (pa_cons pe_w pa_nil hs)) ?_
  refine h F σ H ok xh φ p _ fun y v F1 H1 m r q => ⟨by show 1 ≤ _; decide, fun a ha => ?_⟩
  have g2 := grow_new m.fh ha (.tup [v])
  exact k y _ _ _ (m.trans ((ok.mv m).grow g2)) ⟨a, [v], rfl, upd_same, .cons (T.mono g2.ff r) .nil, by show 1 ≤ _; decide⟩ q
theorem ek_catUp {a b : Expr} {T : Ty X.K α} {vl : μ → List α} {cs1 : μ → List (Cell X.K)} {M : (μ → Prop) → Prop} {vl2 : μ → ν → List α} {cs2 : μ → ν → List (Cell X.K)} {M2 : μ → (ν → Prop) → Prop} (ha : EK X Y a ρ cs (tUp T) vl cs1 M) (hb : ∀ y, EK X Y b ρ (cs1 y) (tU T) (vl2 y) (cs2 y) (M2 y)) (hne : ∀ y, vl y ≠ []) :
    EK X Y (.BinOp a .Add b pos) ρ cs (tUp T) (fun y : μ × ν => vl y.1 ++ vl2 y.1 y.2) (fun y => cs2 y.1 y.2) (fun φ => M fun y => M2 y fun u => (vl y).length + (vl2 y u).length ≤ sizeLine ∧ φ (y, u)) := fun F σ H ok xh φ q Q k => by
  refine we (pe_op op_catA pe_w pe_w) ?_
  refine ha F σ H ok xh _ q _ fun y v F1 H1 m1 ⟨l, vs, e, h, r, z⟩ q1 => ?_
  refine hb y F1 σ H1 (ok.mv m1) (xh.mv m1) _ q1 _ fun u w F2 H2 m2 ⟨m, ws, e2, h2, r2, z2⟩ q2 => ?_
  have hl : vs.length + ws.length ≤ sizeLine := by rw [Rl.length r, Rl.length r2]; exact q2.1
  have mm := m1.trans m2
  have ok2 := (ok.mv m1).mv m2
  have r' := r.mono m2.ff
  refine ⟨l, m, vs, ws, e, e2, .inl (.inl (m2.fh _ _ (m2.ff _ _ h))), (.inl (same_rd m2.fh h2)), hl, fun e0 => ?_, fun _ e0 => ?_, fun _ _ p hp => ?_⟩
  · subst e0
    exact absurd (List.length_eq_zero_iff.mp (Rl.length r').symm) (hne y)
  · subst e0
    have e5 : vl2 y u = [] := List.length_eq_zero_iff.mp (Rl.length r2).symm
    exact k (y, u) _ F2 H2 mm (by show (tUp T).rep F2 _ (vl y ++ vl2 y u); rw [e5, List.append_nil]; exact ⟨l, vs, rfl, m2.ff _ _ h, r', z⟩) q2.2
  · have g4 := grow_new m2.fh hp (.tup (vs ++ ws))
    exact k (y, u) _ _ _ (mm.trans (ok2.grow g4)) ⟨p, _, rfl, upd_same, (Rl.append r' r2).mono g4.ff, by rw [List.length_append]; exact hl⟩ q2.2
/-! ### a chain of two comparisons, the last thing with effects -/
def chE (g : μ → Bool) : Option μ → Bool
  | none => false
  | some u => g u
theorem ek_chainE {op op' : CmpOp} {a b c : Expr} {r r' : R2} {T1 : Ty X.K α} {T2 : Ty X.K β} {T3 : Ty X.K γ} {C : α → β → Prop} {C' : β → γ → Prop} {f : α → β → Bool} {g : β → γ → Bool} {x : α} {y : β} {vl : μ → γ} {M : (μ → Prop) → Prop} {P1 P2 : Prop} (ho : OpR X (compareOp op) r) (hr : R2K r T1 T2 tB C f) (ho' : OpR X (compareOp op') r') (hr' : R2K r' T2 T3 tB C' g)
    (ha : PK X a ρ cs T1 x P1) (hb : PK X b ρ cs T2 y P2) (hc : EK X Y c ρ cs T3 vl (fun _ => cs) M) (hm : lastMarks [op, op'] [b, c] = false := by with_unfolding_all rfl) :
    EK X Y (.Compare a [op, op'] [b, c] pos) ρ cs tB (chE fun u => g y (vl u)) (fun _ => cs) (fun φ => (P1 ∧ P2 ∧ C x y) ∧ (f x y = false → φ none) ∧ (f x y = true → M fun u => C' y (vl u) ∧ φ (some u))) := fun F σ H ok xh φ p Q k => by
  refine we (pe_chain ho ho' pe_w pe_w pe_w hm) ?_
  refine ha F σ H ok.w p.1.1 _ fun v F1 H1 g1 r1 => ?_
  have m1 := ok.grow g1
  have ok1 := ok.mv m1
  refine hb F1 σ H1 ok1.w p.1.2.1 _ fun w F2 H2 g2 r2 => ?_
  have m2 := ok1.grow g2
  have ok2 := ok1.mv m2
  refine hr F2 H2 v w x y g2.fh (T1.mono g2.ff r1) r2 p.1.2.2 _ fun u F3 H3 g3 r3 => ⟨f x y, r3, ?_⟩
  have m3 := ok2.grow g3
  have ok3 := ok2.mv m3
  have mm := (m1.trans m2).trans m3
  cases hf : f x y with
  | false => exact (if_neg Bool.false_ne_true).mpr (k none _ F3 H3 mm rfl (p.2.1 hf))
  | true =>
    refine (if_pos rfl).mpr ?_
    refine hc F3 σ H3 ok3 (xh.mv mm) _ (p.2.2 hf) _ fun z w2 F4 H4 m4 r4 q4 => ?_
    exact hr' F4 H4 w w2 y (vl z) m4.fh (T2.mono (g3.ff.trans m4.ff) r2) r4 q4.1 _ fun q F5 H5 g5 r5 => k (some z) q F5 H5 ((mm.trans m4).trans ((ok3.mv m4).grow g5)) r5 q4.2
end
/-! ### a, b = x, [..]: the second one owned -/
section
variable {X : Cx} {fl : Hp} {B : Hb X.K} {Y : Ec X.K} {ρ : List (Slot X.K)} {cs : List (Cell X.K)} {α μ : Type} {pos : Pos} {rest : List Stmt} {D : Ends}
theorem sk_parN {β : Type} {i j : Nat} {x y : Str} {a b : Expr} {px py pt : Pos} {kt k2 : Nat} {pt2 : Pos} {T1 : Ty X.K α} {T2 : Ty X.K β} {vl : μ → α × β} {cs' : μ → List (Cell X.K)} {M : (μ → Prop) → Prop} {φ : μ → α → Prop} (hc : X.calm = true) (hN : X.N.Nodup)
    (he : AK X Y [a, b] ρ cs (tsC T1 (ts1 T2)) vl cs' M) (k : ∀ y z, SK X B Y fl rest ((ρ.set i (.val T1 z)).set j (.val T2 (vl y).2)) (cs' y) D (φ y z)) (hi : X.N[i]? = some x := by rfl) (hj : X.N[j]? = some y := by rfl) (hij : i ≠ j := by decide)
    (hx : X.env.scope.names.lookup x = some .local := by rfl) (hy : X.env.scope.names.lookup y = some .local := by rfl)
    (hw : swappedStores [.Tuple [.Name x px, .Name y py] kt pt] (.Tuple [a, b] k2 pt2) X.env = pure (some [x, y]) := by rfl)
    (hs : swapsWithSole [.Tuple [.Name x px, .Name y py] kt pt] (.Tuple [a, b] k2 pt2) pos.line X.env = pure false := by rfl) :
    SK X B Y fl (.Assign [.Tuple [.Name x px, .Name y py] kt pt] (.Tuple [a, b] k2 pt2) pos :: rest) ρ cs D (M fun y => ∀ z, z = (vl y).1 → φ y z) := fun F σ H ok p W tk hx' => by
  refine wb (pss_cons (ps_par hc hN hi hj hij hx hy pa_w hw hs) pss_w) ?_
  refine he F σ H ok.c (xh_of ok tk hx') _ p _ fun y vs F1 H1 m r q => ?_
  have ok1 := ok.to m
  obtain ⟨u1, r1, er, ra, u2, er2, rb⟩ := r
  subst er2
  subst er
  refine ⟨u1, u2, rfl, ?_⟩
  have h1 := ok1.env.set (R := Slot.ok F1) (x := .val T1 (vl y).1) (u := some u1) ⟨u1, rfl, ra⟩ i
  have h2 := h1.set (R := Slot.ok F1) (x := .val T2 (vl y).2) (u := some u2) ⟨u2, rfl, rb⟩ j
  exact k y (vl y).1 F1 _ H1 ⟨h2, ok1.mv, ok1.flo⟩ (q _ rfl) W tk hx'
end
/-! ### how many a set of ints has -/
section
variable {X : Cx}
theorem cr_lenSetI : CallR X (.builtin "len") (fun vs H Q => ∃ (a : Addr) (S : Int → Bool) (n : Nat), vs = [.ref a] ∧ H a = some (SetO X.w a S n) ∧ n < 4000 ∧ ∀ ns : List Int, ns.Nodup → (∀ k, k ∈ ns ↔ S k = true) → ns.length = n → Q (.int ((n : Nat) : Int)) H) := by
  intro pins s σ H vs us Q I r h
  obtain ⟨a, S, n, rfl, ha, hn4, q⟩ := h
  obtain ⟨o, es, ep, t, ho, hex, hd, g, nd, hm, hb, hf, hn, hr, hl⟩ := setO_get I ha
  rw [Vals.ref1 r]
  have hsz : es.size = n := hn
  refine call_len_set ho hex hd hf (by omega) ?_
  rw [hsz]
  exact ⟨.int ((n : Nat) : Int), H, I.tok _, ⟨_, rfl⟩, q (es.toList.map keyOf) nd (fun k => (hm k).symm) (by rw [List.length_map, Array.length_toList]; exact hsz)⟩
end
theorem u_lenSetI {K : PySem.W.Frag} {w : World} {xs : List Int} : U1 (fun vs H Q => ∃ (a : Addr) (S : Int → Bool) (n : Nat), vs = [.ref a] ∧ H a = some (SetO w a S n) ∧ n < 4000 ∧ ∀ ns : List Int, ns.Nodup → (∀ k, k ∈ ns ↔ S k = true) → ns.length = n → Q (.int ((n : Nat) : Int)) H) (rI w xs) (xs.length < 4000) (sv (tI (K := K)) ((sortI1 xs).length : Int)) := fun F H v s ⟨a, S, m, e, h, hm, hl⟩ c Q k =>
  ⟨a, S, m, by rw [e], h, by omega, fun ns nd hmem hlen => k _ F H (Grow.refl s) (by
    have p : ns.Perm (sortI1 xs) := perm_of_mem nd ((List.mergeSort_perm _ _).nodup_iff.mpr (nodup_eraseDups xs)) fun x => by rw [hmem, hm, sortI1_mem]
    show V.int _ = V.int _
    rw [← hlen, p.length_eq])⟩
/-! ### how many a dict with tuple keys has -/
section
variable {X : Cx}
theorem cr_lenDt : CallR X (.builtin "len") (fun vs H Q => ∃ (a : Addr) (kvs : List (List Key × V)), vs = [.ref a] ∧ H a = some (.dT kvs) ∧ Q (.int ((kvs.length : Nat) : Int)) H) := by
  intro pins s σ H vs us Q I r h
  obtain ⟨a, kvs, rfl, e, q⟩ := h
  rw [Vals.ref1 r]
  obtain ⟨z, hd, ks, pr, dd⟩ := dt_of I.hok e
  obtain ⟨o, es, ep, ho, hx, hdt, he, _, hn⟩ := id dd
  have l1 : es.size = ks.length := size_of_entries he
  have l2 : kvs.length = ks.length := Paired.length pr
  refine PyProof.Rows.call_len_slot (n := ((es.size : Nat) : Int)) dd.typeIs PySem.F.slot_dict_len (fun Q' hq => call_len_raw hd ⟨o, ho, hx, hdt⟩ hq) (by omega) (by rw [sizeLine_eq] at z; omega) ?_
  rw [show es.size = kvs.length by omega]
  exact ⟨.int ((kvs.length : Nat) : Int), H, I.tok _, ⟨_, rfl⟩, q⟩
end
theorem u_lenDt {K : PySem.W.Frag} {κ α : Type} {TK : Ty K κ} {k : KTt TK} {T : Ty K α} {kvs : List (κ × α)} : U1 (fun vs H Q => ∃ (a : Addr) (ks : List (List Key × V)), vs = [.ref a] ∧ H a = some (.dT ks) ∧ Q (.int ((ks.length : Nat) : Int)) H) (rDt k T kvs) True (sv (tI (K := K)) (kvs.length : Int)) := fun F H v s ⟨a, es, e, h, r, z⟩ _ Q kk =>
  ⟨a, es, by rw [e], h, kk _ F H (Grow.refl s) (by rw [ReT.length r]; rfl)⟩
end MD
/-! a list so many times; a, b, c = x, y, z with plain local names -/
namespace MD
open PySem PySem.Spec PyProof.Rows L2
section
variable {X : Cx} {fl : Hp} {B : Hb X.K} {Y : Ec X.K} {ρ : List (Slot X.K)} {cs : List (Cell X.K)} {α β γ μ : Type} {pos : Pos} {rest : List Stmt} {D : Ends}
theorem Rl.rep {T : Ty X.K α} {F : Hp} {vs : List V} {xs : List α} (h : Rl T F vs xs) : ∀ n : Nat, Rl T F (List.replicate n vs).flatten (List.replicate n xs).flatten
  | 0 => .nil
  | n + 1 => by
    rw [List.replicate_succ, List.replicate_succ, List.flatten_cons, List.flatten_cons]
    exact Rl.append h (Rl.rep h n)
theorem nk_rep {a b : Expr} {T : Ty X.K α} {xs : List α} {n : Int} {P1 P2 : Prop} (ha : PV X a ρ cs (rL T xs) P1) (hb : PK X b ρ cs tI n P2) : NK X (.BinOp a .Mult b pos) ρ cs T (List.replicate n.toNat xs).flatten (P1 ∧ P2 ∧ -(2 ^ 63) ≤ n ∧ n < 2 ^ 63 ∧ xs.length * n.toNat ≤ sizeLine) := fun F σ H ok q Q k => by
  refine we (pe_op op_rep pe_w pe_w) ?_
  refine ha F σ H ok q.1 _ fun v F1 H1 g1 ⟨l, vs, e, h, r, z⟩ => ?_
  refine hb F1 σ H1 (ok.grow g1) q.2.1 _ fun w F2 H2 g2 r2 => ?_
  have r2 : w = .int n := r2
  have hl : vs.length * n.toNat ≤ sizeLine := by rw [Rl.length r]; exact q.2.2.2.2
  refine ⟨l, n, vs, e, r2, g2.hh _ _ h, q.2.2.1, q.2.2.2.1, hl, fun p hp => ?_⟩
  have g := g1.trans g2
  obtain ⟨g4, hF⟩ := grow_upd (o := .lst (List.replicate n.toNat vs).flatten) g hp
  exact k p _ F2 _ g4 (g.hh.free hp) hF upd_same ((r.mono g2.ff).rep _) (by rw [PyProof.Rows.lm_len_rep_flat, Nat.mul_comm]; exact hl)
/-! ### range(a, b, s) -/
/-! ### a list of so many things as one of written places -/
structure LtC (T : Ty X.K α) (Ts : Tys X.K β) (n : Nat) (c : List α → β) : Prop where
  conv : ∀ F vs xs, Rl T F vs xs → xs.length = n → Ts.rep F vs (c xs)
theorem ltc1 [Inhabited α] {T : Ty X.K α} : LtC T (ts1 T) 1 (fun xs => xs.headD default) := ⟨fun F vs xs h hl => by
  cases h with
  | nil => cases hl
  | cons r t =>
    cases t with
    | nil => exact ⟨_, rfl, r⟩
    | cons _ _ => simp at hl⟩
theorem ltcC [Inhabited α] {T : Ty X.K α} {Ts : Tys X.K β} {n : Nat} {c : List α → β} (h : LtC T Ts n c) : LtC T (tsC T Ts) (n + 1) (fun xs => (xs.headD default, c xs.tail)) := ⟨fun F vs xs r hl => by
  cases r with
  | nil => cases hl
  | cons a t => exact ⟨_, _, rfl, a, h.conv F _ _ t (by simpa using hl)⟩⟩
theorem EK.lt {e : Expr} {Y : Ec X.K} {T : Ty X.K α} {Ts : Tys X.K β} {n : Nat} {c : List α → β} {vl : μ → List α} {cs' : μ → List (Cell X.K)} {M : (μ → Prop) → Prop} (hc : LtC T Ts n c) (h : EK X Y e ρ cs (tL T) vl cs' M) : EK X Y e ρ cs (tLt Ts) (fun y => c (vl y)) cs' (fun φ => M fun y => (vl y).length = n ∧ φ y) := fun F σ H ok xh φ p Q k =>
  h F σ H ok xh _ p Q fun y v F' H' m ⟨a, vs, h1, h2, h3, h4⟩ q => k y v F' H' m ⟨a, vs, h1, h2, hc.conv F' vs _ h3 q.1⟩ q.2
end
end MD
namespace KP
open PySem PySem.Spec PyProof.Rows L2 MD
/-! ### dicts as rows -/
/-! ### what is under what -/
/-- j is k, or under k -/
inductive Und (ms : List (List Str)) : Nat → Nat → Prop
  | refl {k : Nat} : Und ms k k
  | step {j k' k : Nat} {d : Str} : k' < k → d ∈ ms.getD k [] → d ∈ ms.getD k' [] → Und ms j k' → Und ms j k
/-- b is d's last meeting of the first n -/
def LastAt (ms : List (List Str)) (n : Nat) (d : Str) (b : Nat) : Prop := b < n ∧ d ∈ ms.getD b [] ∧ ∀ t, b < t → t < n → d ∉ ms.getD t []
section
variable {ms : List (List Str)}
theorem Und.le {j k : Nat} (h : Und ms j k) : j ≤ k := by
  induction h with
  | refl => exact Nat.le_refl _
  | step lt _ _ _ ih => omega
theorem Und.trans {j k m : Nat} (h : Und ms j k) (h2 : Und ms k m) : Und ms j m := by
  induction h2 with
  | refl => exact h
  | step lt a b _ ih => exact .step lt a b ih
theorem LastAt.uniq {n b c : Nat} {d : Str} (h : LastAt ms n d b) (h' : LastAt ms n d c) : b = c := by
  obtain ⟨h1, h2, h3⟩ := h
  obtain ⟨g1, g2, g3⟩ := h'
  rcases Nat.lt_trichotomy b c with z | z | z
  · exact absurd g2 (h3 c z g1)
  · exact z
  · exact absurd h2 (g3 b z h1)
end
/-! ### the latest ones under each, as the program reckons them -/
end KP
/-! machines as the laws about least forms make them: tables, parts and desks, numbers, least forms -/
namespace KN
open PySem PySem.Spec PyProof.Rows L2 MD KP KM
abbrev Ma := List Str × List (List Int) × List Int
def fd_Machine {K : PySem.W.Frag} (x : Ma) : List (Str × MD.Slot K) := [("letters", .val (tUF tS) x.1), ("table", .val (tU (tU tI)) x.2.1), ("good", .val (tU tI) x.2.2)]
def ty_Machine {K : PySem.W.Frag} (C : Addr) : Ty K Ma := tIn C fd_Machine
structure Cl_Machine (K : PySem.W.Frag) (C : Addr) : Prop where
  c : Cls K C
  n_letters : NoAttr K C "letters"
  n_table : NoAttr K C "table"
  n_good : NoAttr K C "good"
structure TabOk (ls : List Str) (tab : List (List Int)) : Prop where
  ne : tab ≠ []
  few : tab.length ≤ 64
  lne : ls ≠ []
  l6 : ls.length ≤ 7
  nd : ls.Nodup
  w : ∀ s ∈ ls, Word s
  len : ∀ r ∈ tab, r.length = ls.length
  goal : ∀ r ∈ tab, ∀ g ∈ r, 0 ≤ g ∧ g < tab.length
def GoodOk (tab : List (List Int)) (good : List Int) : Prop := good = (rng 0 (tab.length : Int)).filter fun k => decide (k ∈ good)
def MaOk (m : Ma) : Prop := TabOk m.1 m.2.1 ∧ GoodOk m.2.1 m.2.2
def pre_Machine_init (x : Ma) : Prop := MaOk x
def f_Machine_init (x : Ma) : Ma := x
def TG (m : Nat) (r : List (List Int) × List Int) : Prop := TOk m r.1 ∧ GoodOk r.1 r.2 ∧ 1 ≤ r.1.length ∧ r.1.length ≤ 24
def pre_machine (fl : List Int) (x : Int × List Str) : Prop := Fl fl ∧ 1 ≤ x.1 ∧ x.1 ≤ 24 ∧ x.2.length ≤ 6
def post_machine (fl : List Int) (x : Int × List Str) (r : List (List Int) × List Int) (fl2 : List Int) : Prop := Fl fl2 ∧ (r.1.length : Int) = x.1 ∧ (∀ s ∈ r.1, s.length = x.2.length ∧ ∀ g ∈ s, 0 ≤ g ∧ g < x.1) ∧ GoodOk r.1 r.2
def pre_numbered {κ : Type} (x : List κ) : Prop := x.length ≤ 1000
def post_numbered {κ : Type} [DecidableEq κ] (x : List κ) (r : List Int) : Prop := r = x.map (numOf x)
theorem rng_len (n : Nat) : (rng 0 (n : Int)).length = n := by rw [rng_length]; omega
theorem rng_pw (n : Nat) : (rng 0 (n : Int)).Pairwise (· < ·) := by
  unfold rng
  rw [List.pairwise_map]
  exact List.pairwise_lt_range.imp fun h => by omega
theorem rng_memI {n : Nat} {g : Int} (h0 : 0 ≤ g) (h1 : g < n) : g ∈ rng 0 (n : Int) := List.mem_map.mpr ⟨g.toNat, List.mem_range.mpr (by omega), by omega⟩
theorem rng_mem {n : Nat} {g : Int} (h : g ∈ rng 0 (n : Int)) : 0 ≤ g ∧ g < n := by
  obtain ⟨i, hi, rfl⟩ := List.mem_map.mp h
  have := List.mem_range.mp hi
  omega
theorem good_of {tab : List (List Int)} {good : List Int} (h : good.Pairwise (· < ·)) (hb : ∀ g ∈ good, 0 ≤ g ∧ g < (tab.length : Int)) : GoodOk tab good :=
  pw_ext h ((rng_pw tab.length).filter _) fun x => by
    rw [List.mem_filter, decide_eq_true_eq]
    exact ⟨fun hx => ⟨rng_memI (hb x hx).1 (hb x hx).2, hx⟩, fun hx => hx.2⟩
theorem good_in {tab : List (List Int)} {good : List Int} (h : GoodOk tab good) {g : Int} (hg : g ∈ good) : 0 ≤ g ∧ g < (tab.length : Int) := by
  rw [h] at hg
  exact rng_mem (List.mem_filter.mp hg).1
theorem good_pw {tab : List (List Int)} {good : List Int} (h : GoodOk tab good) : good.Pairwise (· < ·) := by
  rw [h]
  exact (rng_pw _).filter _
theorem good_sort {tab : List (List Int)} {good : List Int} (h : GoodOk tab good) : sortI1 good = good := (sortI1_of (good_pw h) fun x => Iff.rfl).symm
theorem tok_of {ls : List Str} {tab : List (List Int)} (h : TabOk ls tab) : TOk ls.length tab := ⟨h.len, h.goal⟩
structure Sml (n : Nat) (d : PyData) : Prop where
  s : d.showable = true
  h : d.hasDict = false
  l : d.leavesShort 13 = true
  w : d.weight ≤ n
theorem Sml.mono {n m : Nat} {d : PyData} (h : Sml n d) (hm : n ≤ m) : Sml m d := ⟨h.s, h.h, h.l, Nat.le_trans h.w hm⟩
theorem sml_str {w : Str} (h : Word w) : Sml 8 (.str w) := by
  refine ⟨by simp only [PyData.showable], by simp only [PyData.hasDict], ?_, ?_⟩
  · simp only [PyData.leavesShort, List.all_eq_true, decide_eq_true_eq]
    intro c hc
    have := h.2.2 c hc
    have e : (16 : Nat) ^ 8 = 4294967296 := by decide
    omega
  · simp only [PyData.weight]
    exact h.2.1
theorem sml_int {i : Int} (h0 : 0 ≤ i) (h1 : i < 1000) : Sml 1001 (.int i) := by
  have hl : i.natAbs.log2 ≤ i.natAbs := Nat.log2_le_self _
  refine ⟨by simp only [PyData.showable, decide_eq_true_eq]; omega, by simp only [PyData.hasDict], ?_, ?_⟩
  · simp only [PyData.leavesShort, decide_eq_true_eq]
    exact PyData.shown_int_le (by have e : (10 : Nat) ^ 12 = 1000000000000 := by decide
                                  omega)
  · simp only [PyData.weight]
    split <;> omega
theorem sml_all {n : Nat} : ∀ {xs : List PyData}, (∀ x ∈ xs, Sml n x) → PyData.showableAll xs = true ∧ PyData.hasDictAll xs = false ∧ PyData.leavesShortAll 13 xs = true ∧ PyData.weightAll xs ≤ (n + 1) * xs.length
  | [], _ => ⟨by simp only [PyData.showableAll], by simp only [PyData.hasDictAll], by simp only [PyData.leavesShortAll], by simp only [PyData.weightAll]; exact Nat.zero_le _⟩
  | x :: xs, h => by
    obtain ⟨h1, h2, h3, h4⟩ := sml_all fun y hy => h y (List.mem_cons_of_mem _ hy)
    have hx := h x List.mem_cons_self
    have hw := hx.w
    refine ⟨by simp only [PyData.showableAll, hx.s, h1, Bool.and_self], by simp only [PyData.hasDictAll, hx.h, h2, Bool.or_self], by simp only [PyData.leavesShortAll, hx.l, h3, Bool.and_self], ?_⟩
    simp only [PyData.weightAll, List.length_cons]
    have : (n + 1) * (xs.length + 1) = (n + 1) * xs.length + (n + 1) := Nat.mul_succ _ _
    omega
theorem sml_list {n : Nat} {xs : List PyData} (h : ∀ x ∈ xs, Sml n x) : Sml ((n + 1) * xs.length) (.list xs) := by
  obtain ⟨h1, h2, h3, h4⟩ := sml_all h
  exact ⟨by simp only [PyData.showable, h1], by simp only [PyData.hasDict, h2], by simp only [PyData.leavesShort, h3], by simp only [PyData.weight]; exact h4⟩
theorem sml_tup {n : Nat} {xs : List PyData} (h : ∀ x ∈ xs, Sml n x) : Sml ((n + 1) * xs.length) (.tuple xs) := by
  obtain ⟨h1, h2, h3, h4⟩ := sml_all h
  exact ⟨by simp only [PyData.showable, h1], by simp only [PyData.hasDict, h2], by simp only [PyData.leavesShort, h3], by simp only [PyData.weight]; exact h4⟩
theorem Sml.fits {n : Nat} {d : PyData} (h : Sml n d) (hn : n ≤ 1048576) : d.showable = true ∧ d.hasDict = false ∧ d.shown.length ≤ sizeLine :=
  ⟨h.s, h.h, PyData.shown_fits (B := 13) (by decide) (by decide) h.l (Nat.le_trans h.w (Nat.le_trans hn (by decide)))⟩
theorem sml_words {ws : List Str} {n : Nat} (h : ∀ w ∈ ws, Word w) (hn : ws.length ≤ n) : Sml (9 * n) (.tuple (ws.map .str)) ∧ Sml (9 * n) (.list (ws.map .str)) := by
  have h1 : ∀ x ∈ ws.map PyData.str, Sml 8 x := fun x hx => by
    obtain ⟨w, hw, rfl⟩ := List.mem_map.mp hx
    exact sml_str (h w hw)
  have hl : (8 + 1) * (ws.map PyData.str).length ≤ 9 * n := by rw [List.length_map]; omega
  exact ⟨(sml_tup h1).mono hl, (sml_list h1).mono hl⟩
theorem good_len {ls : List Str} {tab : List (List Int)} {good : List Int} (hT : TabOk ls tab) (hg : GoodOk tab good) : good.length ≤ tab.length := by
  have h1 : good.length ≤ (rng 0 (tab.length : Int)).length := by
    have e : good = (rng 0 (tab.length : Int)).filter fun k => decide (k ∈ good) := hg
    rw [e]
    exact List.length_filter_le _ _
  rw [rng_len] at h1
  exact h1
theorem machine_tg {fl fl2 : List Int} {n : Int} {ls : List Str} {r : List (List Int) × List Int} (h : post_machine fl (n, ls) r fl2) (h1 : 1 ≤ n) (h2 : n ≤ 24) : TG ls.length r := by
  obtain ⟨_, hl, hr, hg⟩ := h
  have hl : (r.1.length : Int) = n := hl
  exact ⟨⟨fun s hs => (hr s hs).1, fun s hs g hgm => ⟨((hr s hs).2 g hgm).1, by have : g < n := ((hr s hs).2 g hgm).2; omega⟩⟩, hg, by omega, by omega⟩
def pre_classes (x : Ma) : Prop := MaOk x
def post_classes (x : Ma) (r : List Int) : Prop := ColA x.1.length x.2.1 x.2.2 r
def pre_least (x : Ma) : Prop := MaOk x
def post_least (x r : Ma) : Prop := r.1 = x.1 ∧ MaOk r ∧ IsM x.1.length r.2.1 r.2.2 ∧ KM.Same x.1.length x.2.1 x.2.2 r.2.1 r.2.2 ∧ r.2.1.length ≤ x.2.1.length
def pre_lclasses (x : List (List Int) × List Int) : Prop := ∃ m, TOk m x.1 ∧ m ≤ 7 ∧ x.1.length ≤ 64
def post_lclasses (x : List (List Int) × List Int) (r : List Int) : Prop := ∀ m, TOk m x.1 → ColA m x.1 x.2 r
def pre_is_least (x : Ma) : Prop := MaOk x ∧ IsM x.1.length x.2.1 x.2.2
def f_is_least (x : Ma) : Bool := true
def pre_formed (x : Ma × List Str) : Prop := MaOk x.1 ∧ x.1.1 = x.2
def f_formed (x : Ma × List Str) : Bool := true
def putF : List Int → List Int → Int
  | s :: ss, p :: ps => p + s * putF ss ps
  | _, _ => 0
structure Dg (ss ps : List Int) : Prop where
  len : ps.length = ss.length
  val : ∀ k, k < ss.length → 0 ≤ ps.getD k 0 ∧ ps.getD k 0 < ss.getD k 0
theorem Dg.cons {s p : Int} {ss ps : List Int} (h : Dg (s :: ss) (p :: ps)) : (0 ≤ p ∧ p < s) ∧ Dg ss ps :=
  ⟨h.val 0 (Nat.succ_pos _), by have := h.len; simpa using this, fun k hk => h.val (k + 1) (Nat.succ_lt_succ hk)⟩
theorem pyIx_last {α : Type} [Inhabited α] {xs : List α} (h : 0 < xs.length) : pyIx xs (-1) ∈ xs := by
  have e : ixN xs.length (-1) = some (xs.length - 1) := by
    unfold ixN
    rw [if_neg (by omega), if_pos (by omega)]
    exact congrArg some (by omega)
  unfold pyIx atI
  rw [e]
  show (xs[xs.length - 1]?).getD default ∈ xs
  rw [List.getElem?_eq_getElem (by omega)]
  exact List.getElem_mem _
end KN
namespace MD
open PySem PySem.Spec PyProof.Rows L2
/-! ### zip of two, one a list and one a tuple, to two targets -/
abbrev Tn2 (k k2 : Bool) (z TI TO i1 i2 a b : Addr) (i : Nat) (h : Heap) : Prop :=
  IsZip h z TI TO .none ∧ IsTupOf2 h TI (.ref i1) (.ref i2) ∧ (∃ a1 a2, IsTupOf2 h TO a1 a2) ∧ ItK k h i1 a i ∧ ItK k2 h i2 b i
theorem tn2_obj {k k2 : Bool} {z TI TO i1 i2 a b : Addr} {i : Nat} {h : Heap} (st : Tn2 k k2 z TI TO i1 i2 a b i h) : ∀ d ∈ [z, TI, TO, i1, i2], ∃ o, h.get? d = some o ∧ ∀ v, o.data ≠ .cell v := fun d hd => by
  obtain ⟨hz, hTI, ⟨x, y, hTO⟩, h1, h2⟩ := st
  have e' : d = z ∨ d = TI ∨ d = TO ∨ d = i1 ∨ d = i2 := by simpa using hd
  rcases e' with q | q | q | q | q
  · rw [q]; exact ⟨_, hz, fun v q => nomatch q⟩
  · rw [q]; exact ⟨_, hTI, fun v q => nomatch q⟩
  · rw [q]; exact ⟨_, hTO, fun v q => nomatch q⟩
  · rw [q]; exact h1.obj
  · rw [q]; exact h2.obj
theorem turn_zip2 {P : Program} {w : World} {K : PySem.W.Frag} {elts : List Expr} {kk : Nat} {tpos : Pos} (k k2 : Bool) (n : Nat) {a b z TI TO i1 i2 : Addr} (S : ZipSep2 z TI TO i1 i2 [i1, a] [i2, b]) (n1 : a ≠ i1) (n2 : b ≠ i2) :
    Turn P w K (.Tuple elts kk tpos) (ItzN k k2 K a b n) [z, TI, TO, i1, i2] z (fun i h => Tn2 k k2 z TI TO i1 i2 a b i h ∧ i ≤ n) where
  mem := by simp
  obj := fun i h st d hd => tn2_obj st.1 d hd
  keep := fun i h h' st kp => by
    obtain ⟨⟨hz, hTI, ⟨x, y, hTO⟩, h1, h2⟩, hn⟩ := st
    refine ⟨?_, hn⟩
    exact ⟨kp z (by simp) _ hz, kp TI (by simp) _ hTI, ⟨x, y, kp TO (by simp) _ hTO⟩, h1.at fun o q => kp i1 (by simp) o q, h2.at fun o q => kp i2 (by simp) o q⟩
  item := by
    intro X hP hw hK hc i pins s σ H E I hf st hg
    subst hP hw hK
    obtain ⟨st0, _⟩ := st
    obtain ⟨hz, hTI, hTO, h1, h2⟩ := id st0
    obtain ⟨hlt, xs, ys, x, y, hqx, hqy, hx, hy⟩ := hg
    obtain ⟨l1, rv1, p1, _⟩ := inv_sqK I hqx
    obtain ⟨l2, rv2, p2, _⟩ := inv_sqK I hqy
    obtain ⟨v1, hv1, r1⟩ := rv1.get hx
    obtain ⟨v2, hv2, r2⟩ := rv2.get hy
    have hh : X.A.in1.handled = none := I.ok.hd hc
    have W := WalksT.zipD2 (prog := X.prog) (w := X.w) (A := X.A) S (drawsK k hh i1 a n1 l1.toArray) (drawsK k2 hh i2 b n2 l2.toArray)
    have b1 : i < l1.length := (List.getElem?_eq_some_iff.mp hv1).1
    have b2 : i < l2.length := (List.getElem?_eq_some_iff.mp hv2).1
    refine W.item i s _ _ (by simp only [List.size_toArray]; omega) ⟨hz, hTI, hTO, ⟨h1, p1⟩, h2, p2⟩ fun T vals h' tk ⟨w1, w2, q1, q2, ev⟩ hn hT mid hk => ⟨_, rfl, ?_⟩
    have e1 : w1 = v1 := by
      have q1 : l1.toArray[i]? = some w1 := q1
      rw [List.getElem?_toArray, hv1] at q1
      exact (Option.some.inj q1).symm
    have e2 : w2 = v2 := by
      have q2 : l2.toArray[i]? = some w2 := q2
      rw [List.getElem?_toArray, hv2] at q2
      exact (Option.some.inj q2).symm
    subst e1 e2 ev
    have ap := W.apart i T h' mid
    refine W.go elts kk tpos i T { s with heap := h', toks := tk } _ _ mid fun h'' st'' hk'' => ?_
    obtain ⟨hz2, hTI2, hTO2, ⟨g1, _⟩, g2, _⟩ := st''
    have hT2 : h''.IsTuple T #[w1, w2] := hT.at fun o q => hk'' T o ap q
    have new : ObjOk X.prog X.w (upd H T (.tup [x, y])) h'' T (.tup [x, y]) :=
      ⟨by show 2 ≤ sizeLine; decide, [w1, w2], .cons r1 (.cons r2 .nil), hT2⟩
    have I1 : Inv X pins σ (upd H T (.tup [x, y])) { s with heap := h'', toks := tk } :=
      I.turnedNew (t' := tk) (ch := [z, TI, TO, i1, i2]) (fun d o hb q => by
        have nb : d ∉ [z, TO, i1, i2] := fun m => hb (by
          have e' : d = z ∨ d = TO ∨ d = i1 ∨ d = i2 := by simpa using m
          rcases e' with e | e | e | e <;> simp [e])
        exact hk'' d o nb (hk d o nb q)) hf hn new
    refine ⟨.ref T, _, I1, rfl, ⟨T, x, y, rfl, I.hok.fresh hn, rfl, fun l hl => by rw [inv_injK I hl hqx]; exact hx, fun l hl => by rw [inv_injK I hl hqy]; exact hy⟩, ⟨⟨hz2, hTI2, hTO2, g1, g2⟩, hlt⟩, fun d hd => ?_⟩
    obtain ⟨o, ho, _⟩ := tn2_obj st0 d hd
    rw [upd_ne (Nat.ne_of_lt (Nat.lt_of_lt_of_le (Heap.lt_size ho) hn))]
    exact (hf d hd).1
  done := by
    intro X hP hw hK hc i pins s σ H E I hf st hg
    subst hP hw hK
    obtain ⟨⟨hz, hTI, hTO, h1, h2⟩, hle⟩ := st
    obtain ⟨xs, ys, hqx, hqy, hend, hge⟩ := hg
    obtain ⟨l1, rv1, p1, _⟩ := inv_sqK I hqx
    obtain ⟨l2, rv2, p2, _⟩ := inv_sqK I hqy
    have hh : X.A.in1.handled = none := I.ok.hd hc
    have W := WalksT.zipD2 (prog := X.prog) (w := X.w) (A := X.A) S (drawsK k hh i1 a n1 l1.toArray) (drawsK k2 hh i2 b n2 l2.toArray)
    have g1 := rv1.length
    have g2 := rv2.length
    have hi : min l1.toArray.size l2.toArray.size = i := by simp only [List.size_toArray]; omega
    refine W.done s _ _ (by rw [hi]; exact ⟨hz, hTI, hTO, ⟨h1, p1⟩, h2, p2⟩) fun h' tk hk => ⟨rfl, I.turnedL (t' := tk) (ch := [z, TI, TO, i1, i2]) (fun d o hb q => hk d o (fun m => hb (by
      have e' : d = z ∨ d = TO ∨ d = i1 ∨ d = i2 := by simpa using m
      rcases e' with e | e | e | e <;> simp [e])) q) hf⟩
  self := fun A i s Q E st h => wpAny_pyIter_zip st.1.1 h
theorem pi_zip2 (k k2 : Bool) {X : Cx} {e e2 : Expr} {ta : TA} {p pos tpos : Pos} {elts : List Expr} {kk : Nat} (hg : Gl X "zip") (hm : X.mg "zip" = none) (ha : PA X [e, e2] ta)
    (hs : starEach [e, e2] X.env = (false, eval e X.env) :: starEach [e2] X.env := by rfl) (hpl : (backTo pos (starEach [e2] X.env)).any (·.1) = false := by rfl) :
    PI X (.Tuple elts kk tpos) (.Call (.Name "zip" p) [e, e2] [] pos) (fun σ H R => ta σ H fun vs H1 => ∃ a b xs ys, vs = [.ref a, .ref b] ∧ SqK k X.K H1 a xs ∧ SqK k2 X.K H1 b ys ∧ R (ItzN k k2 X.K a b (min xs.length ys.length)) H1) := by
  refine ⟨fun pins s σ H R I h => ?_⟩
  refine Call_ (ld_blt I hg hm PyProof.Rows.boot_zip (PyProof.Rows.callWith_type1 (thn (ha.run pos pins s σ H _ I h) fun us s1 ⟨vs, H1, I1, r1, q1⟩ => ?_) hs hpl))
  obtain ⟨a, b, xs, ys, ex, hqx, hqy, q⟩ := q1
  subst ex
  cases r1 with
  | cons r rr =>
    cases rr with
    | cons r' rr =>
      cases rr
      cases r
      cases r'
      obtain ⟨l1, rv1, p1, _⟩ := inv_sqK I1 hqx
      obtain ⟨l2, rv2, p2, _⟩ := inv_sqK I1 hqy
      have la := p1.lt
      have lb := p2.lt
      obtain ⟨o1, B1, t1⟩ := beginsK k a l1.toArray
      obtain ⟨o2, B2, t2⟩ := beginsK k2 b l2.toArray
      refine zip_begins2 B1 B2 p1 p2 fun h' hz hTI hTO h1 h2 hsz hk => wpAny_pyIter_zip hz ?_
      have I2 : Inv X pins σ H1 { s1 with heap := h' } := I1.kept (t' := s1.toks) hk
      have hS : ZipSep2 (s1.heap.objs.size + 4) (s1.heap.objs.size + 2) (s1.heap.objs.size + 3) s1.heap.objs.size (s1.heap.objs.size + 1) [s1.heap.objs.size, a] [s1.heap.objs.size + 1, b] :=
        zip_sep2 (fun d hd => by rw [List.mem_singleton.mp hd]; exact la) (fun d hd => by rw [List.mem_singleton.mp hd]; exact lb)
      have na : (a : Nat) ≠ s1.heap.objs.size := Nat.ne_of_lt la
      have nb : (b : Nat) ≠ s1.heap.objs.size + 1 := Nat.ne_of_lt (Nat.lt_succ_of_lt lb)
      refine ⟨s1.heap.objs.size + 4, [s1.heap.objs.size + 4, s1.heap.objs.size + 2, s1.heap.objs.size + 3, s1.heap.objs.size, s1.heap.objs.size + 1], _, _, H1, rfl, I2, turn_zip2 k k2 (min xs.length ys.length) hS na nb, ⟨⟨hz, hTI, ⟨_, _, hTO⟩, t1 _ _ h1, t2 _ _ h2⟩, Nat.zero_le _⟩, fun d hd => ?_, q⟩
      have e' : d = s1.heap.objs.size + 4 ∨ d = s1.heap.objs.size + 2 ∨ d = s1.heap.objs.size + 3 ∨ d = s1.heap.objs.size ∨ d = s1.heap.objs.size + 1 := by simpa using hd
      have hle : s1.heap.objs.size ≤ d := by
        rcases e' with z | z | z | z | z
        · rw [z]; exact Nat.le_add_right _ _
        · rw [z]; exact Nat.le_add_right _ _
        · rw [z]; exact Nat.le_add_right _ _
        · rw [z]; exact Nat.le_refl _
        · rw [z]; exact Nat.le_add_right _ _
      exact I1.fpOk hle (I1.hok.fresh hle)
section
variable {X : Cx} {fl : Hp} {B : Hb X.K} {Y : Ec X.K} {ρ : List (Slot X.K)} {cs : List (Cell X.K)} {α β γ μ : Type} {pos : Pos} {rest : List Stmt} {D : Ends} {e : Expr}
theorem ik_zip2 (k k2 : Bool) {a b : Expr} {T : Ty X.K α} {U : Ty X.K β} {S1 : Ty X.K (List α)} {S2 : Ty X.K (List β)} {xs : List α} {ys : List β} {P1 P2 : Prop} {p tpos : Pos} {elts : List Expr} {kk : Nat} (hm : X.mg "zip" = none)
    (sq1 : ∀ F v x, S1.rep F v x → ∃ a vs, v = .ref a ∧ (∀ H, Same F H → SqK k X.K H a vs) ∧ Rl T F vs x ∧ vs.length ≤ sizeLine) (sq2 : ∀ F v x, S2.rep F v x → ∃ a vs, v = .ref a ∧ (∀ H, Same F H → SqK k2 X.K H a vs) ∧ Rl U F vs x ∧ vs.length ≤ sizeLine)
    (h1 : PK X a ρ cs S1 xs P1) (h2 : PK X b ρ cs S2 ys P2) (hg : Gl X "zip" := by rfl)
    (hs : starEach [a, b] X.env = (false, eval a X.env) :: starEach [b] X.env := by rfl) (hs2 : starEach [b] X.env = (false, eval b X.env) :: starEach [] X.env := by rfl)
    (hpl : (backTo pos (starEach [b] X.env)).any (·.1) = false := by rfl) :
    IK X (.Tuple elts kk tpos) (.Call (.Name "zip" p) [a, b] [] pos) ρ cs (tP T U) (xs.zip ys) (P1 ∧ P2) := fun F σ H ok q R kr => by
  refine wi (pi_zip2 k k2 hg hm (pa_cons pe_w (pa_cons pe_w pa_nil hs2) hs) hs hpl) ?_
  refine h1 F σ H ok q.1 _ fun v F1 H1 g1 r1 => ?_
  refine h2 F1 σ H1 (ok.grow g1) q.2 _ fun w F2 H2 g2 r2 => ?_
  obtain ⟨a1, vs, e1, q1, rl1, z1⟩ := sq1 _ _ _ (S1.mono g2.ff r1)
  obtain ⟨a2, ws, e2, q2, rl2, z2⟩ := sq2 _ _ _ r2
  have fh := g2.fh
  have ml : min vs.length ws.length = (xs.zip ys).length := by rw [List.length_zip, Rl.length rl1, Rl.length rl2]
  refine ⟨a1, a2, vs, ws, by rw [e1, e2], q1 _ fh, q2 _ fh, kr _ F2 H2 (g1.trans g2) (fun i F4 H4 e4 e5 => ?_) (by rw [← ml]; omega)⟩
  have s1 := q1 _ (e4.trans e5)
  have s2 := q2 _ (e4.trans e5)
  refine ⟨fun z hz => ?_, fun hi => ⟨vs, ws, s1, s2, rfl, by rw [ml]; exact hi⟩⟩
  obtain ⟨hx, hy⟩ := zip_get hz
  obtain ⟨v1, hv1, rv1⟩ := rl_get rl1 hx
  obtain ⟨w1, hw1, rw1⟩ := rl_get rl2 hy
  refine ⟨⟨by rw [ml]; exact (List.getElem?_eq_some_iff.mp hz).1, vs, ws, v1, w1, s1, s2, hv1, hw1⟩, fun v' H5 ⟨t, x', y', ev, hn, eh, hx', hy'⟩ => ?_⟩
  have t1 := (hx' vs s1).symm.trans hv1
  have t2 := (hy' ws s2).symm.trans hw1
  cases t1; cases t2
  subst ev; subst eh
  obtain ⟨g3, r3⟩ := grow_tup2 (T1 := T) (T2 := U) (x := z.1) (y := z.2) e5 hn (T.mono e4 rv1) (U.mono e4 rw1)
  exact ⟨_, g3, r3⟩
/-! ### a text once or not at all -/
theorem op_mulS1 : OpR X (binaryOp .Mult) (fun x y H Q => ∃ i n, x = .str i ∧ y = .int n ∧ (n = 0 ∨ n = 1) ∧ Q (.str (if n = 1 then i else "")) H) := by
  intro pins s σ H x y v u Q I rx ry h
  obtain ⟨i, n, rfl, rfl, hn, q⟩ := h
  obtain ⟨t, rfl⟩ := rx
  obtain ⟨t', rfl⟩ := ry
  rcases hn with z | z
  · subst z
    exact PySem.P.mul_str_none (by decide) (by decide) ⟨.str "", H, I.tok _, ⟨_, rfl⟩, q⟩
  · subst z
    refine PySem.P.mul_str (by decide) (fun _ h2 => by simp at h2) (fun _ h2 => by simp at h2) ?_
    rw [if_neg (by decide), if_pos (by simp)]
    exact ⟨.str i, H, I, ⟨_, rfl⟩, q⟩
theorem r2_mulS1 {K : PySem.W.Frag} : R2K (K := K) (fun x y H Q => ∃ i n, x = .str i ∧ y = .int n ∧ (n = 0 ∨ n = 1) ∧ Q (.str (if n = 1 then i else "")) H) tS tI tS (fun _ n => n = 0 ∨ n = 1) (fun i n => if n = 1 then i else "") :=
  fun F H v w x y s h1 h2 c Q k => ⟨x, y, h1.1, h2, c, k _ F H (Grow.refl s) ⟨rfl, by
    show PyData.strOk (if y = 1 then x else "") = true
    split
    · exact h1.2
    · decide +kernel⟩⟩
/-! ### a if t else b -/
theorem nk_if {t a b : Expr} {c : Bool} {T : Ty X.K α} {xs ys : List α} {P P1 P2 : Prop} (ht : PTK X t ρ cs c P) (ha : NK X a ρ cs T xs P1) (hb : NK X b ρ cs T ys P2) :
    NK X (.IfExp t a b pos) ρ cs T (if c = true then xs else ys) (P ∧ (c = true → P1) ∧ (c = false → P2)) := fun F σ H ok q Q k => by
  refine we (pe_ifExp pt_w pe_w pe_w) ?_
  refine ht F σ H ok q.1 _ fun F1 H1 g1 => ?_
  cases c with
  | true => exact (if_pos rfl).mpr (ha F1 σ H1 (ok.grow g1) (q.2.1 rfl) Q fun p vs F2 H2 g2 hH hF ho r z => k p vs F2 H2 (g1.trans g2) (g1.hh.free hH) hF ho r z)
  | false => exact (if_neg Bool.false_ne_true).mpr (hb F1 σ H1 (ok.grow g1) (q.2.2 rfl) Q fun p vs F2 H2 g2 hH hF ho r z => k p vs F2 H2 (g1.trans g2) (g1.hh.free hH) hF ho r z)
/-! ### one of two defs, as a value -/
def tFn2 {K : PySem.W.Frag} (f g : Addr) : Ty K Bool := ⟨fun _ v b => v = .ref (if b = true then g else f), fun _ h => h⟩
theorem PK.fnA {f g : Addr} {u : Unit} {P : Prop} (h : PK X e ρ cs (tFn f) u P) : PK X e ρ cs (tFn2 f g) false P := fun F σ H ok p Q q => h F σ H ok p Q fun v F' H' g1 r => q v F' H' g1 r
theorem PK.fnB {f g : Addr} {u : Unit} {P : Prop} (h : PK X e ρ cs (tFn g) u P) : PK X e ρ cs (tFn2 f g) true P := fun F σ H ok p Q q => h F σ H ok p Q fun v F' H' g1 r => q v F' H' g1 r
theorem ek_fxTL2 {xa : XA} {k : Nat} {f1 f2 : Addr} {fd1 fd2 : FuncData} {ps1 ps2 : List Str} {nm : Str} {p : Pos} {es : List Expr} {ins : α → List (Slot X.K)} {T : Ty X.K γ} {pre : α → Prop} {g1 g2 : α → γ ⊕ Rf} {Ts : Tys X.K α} {vl : μ → α} {cs1 : μ → List (Cell X.K)} {M : (μ → Prop) → Prop} {ε1 : Rf → Prop} {b : Bool} (i : Nat) (hρ : ρ[i]? = some (.val (tFn2 f1 f2) b)) (hN : X.N[i]? = some nm)
    (F1 : FnOk X.prog X.w X.K X.mg X.base (L2.CX X.prog X.w) k f1 fd1 ps1 (Con.fx xa ins T pre g1).sp) (F2 : FnOk X.prog X.w X.K X.mg X.base (L2.CX X.prog X.w) k f2 fd2 ps2 (Con.fx xa ins T pre g2).sp) (hs : Sl Ts ins) (hr : Room k X.A) (hk1 : PySem.W.keepIn X.K (.ref f1) = true) (hk2 : PySem.W.keepIn X.K (.ref f2) = true) (hb1 : Binds X.K fd1 ps1 []) (hb2 : Binds X.K fd2 ps2 [])
    (ha : AK X Y (e :: es) ρ cs Ts vl cs1 M) (hy : ∀ y, ∀ c ∈ Y.kp, c ∈ cs1 y) (hE : ∀ r, ε1 r → Y.ε (exn xa r)) (hv : Vis X.env.scope nm := by first | exact Or.inl rfl | exact Or.inr (Or.inl rfl) | exact Or.inr (Or.inr rfl))
    (hdb : (nm == ("__debug__" : Str)) = false := by decide) (hcd : (nm == ("__classdict__" : Str)) = false := by decide) (he : starEach (e :: es) X.env = (false, eval e X.env) :: starEach es X.env := by rfl) (hpl : (backTo pos (starEach es X.env)).any (·.1) = false := by rfl) :
    EK X Y (.Call (.Name nm p) (e :: es) [] pos) ρ cs T (fun y : μ × γ => y.2) (fun y => cs1 y.1) (fun φ => M fun y => pre (vl y) ∧ (∀ r, (if b = true then g2 else g1) (vl y) = .inl r → φ (y, r)) ∧ ∀ r, (if b = true then g2 else g1) (vl y) = .inr r → ε1 r) := fun F0 σ H ok xh φ q Q kk => by
  have main : ∀ {f : Addr} {fd : FuncData} {ps : List Str} {g : α → γ ⊕ Rf}, FnOk X.prog X.w X.K X.mg X.base (L2.CX X.prog X.w) k f fd ps (Con.fx xa ins T pre g).sp → PySem.W.keepIn X.K (.ref f) = true → Binds X.K fd ps [] → (∀ F v, (tFn2 f1 f2 (K := X.K)).rep F v b → v = .ref f) → (M fun y => pre (vl y) ∧ (∀ r, g (vl y) = .inl r → φ (y, r)) ∧ ∀ r, g (vl y) = .inr r → ε1 r) → WE X (.Call (.Name nm p) (e :: es) [] pos) σ H Q := fun {f fd ps g} FF hk hb hf q => by
    obtain ⟨W, tk, hW⟩ := id xh
    obtain ⟨v0, hv0, rv0⟩ := ok.slot hρ
    have rv0 : v0 = .ref f := hf _ _ rv0
    subst rv0
    intro pins s I
    refine wpAny_Call_Name_kw (thn ((pe_var (pos := p) hN hv hdb hcd).run pins s σ H (fun v H1 => v = .ref f ∧ H1 = H) I ⟨.ref f, hv0, rfl, rfl⟩) fun u s1 ⟨v, H1, I1, r1, q1⟩ => ?_)
    obtain ⟨rfl, rfl⟩ := q1
    cases r1
    have hA : WA X (e :: es) σ H1 (fun vs H2 => (Con.fx xa ins T pre g).sp vs H2 Q (L2.WE W σ)) := by
      refine ha F0 σ H1 ok xh _ q _ fun y vs F1 H2 m1 r1 q1 => ?_
      have ok1 := ok.mv m1
      have up : ∀ {F2 H3 : Hp}, Mv (K := X.K) [] F1 H2 [] F2 H3 → Mv cs F0 H1 (cs1 y) F2 H3 := fun m => m1.trans (ok1.grow ⟨m.ff, m.fh, fun b o e => m.kp b o e fun c hc => (nomatch hc), m.fr⟩)
      refine ⟨vl y, F1, hs F1 vs (vl y) r1, m1.fh, fun c hc => absurd hc (by simp [Con.fx]), by simp [Con.fx], q1.1, fun r er v F2 H3 m rr => ?_, fun r er cls d F2 H3 m rep => ?_⟩
      · exact kk (y, r) v F2 H3 (up m) rr (q1.2.1 r er)
      · exact hW _ cls d (cs1 y) F2 H3 (up m) (hy y) rep (hE _ (q1.2.2 r er))
    refine PySem.W.callWith_K (h₀ := X.base) I1.ok.mod.kin hk (thn (hA pos pins s1 I1) fun us s2 ⟨vs, H2, I2, r, q2⟩ => ⟨I2.kIn, ?_⟩) he hpl
    exact run_fnS FF hr hb (passAt tk σ) I2 r q2
  cases b with
  | true => exact main F2 hk2 hb2 (fun F v r => r) q
  | false => exact main F1 hk1 hb1 (fun F v r => r) q
end
/-! ### dicts keyed by three ints -/
def kIII {K : PySem.W.Frag} : KTt (tT (tsC (tI (K := K)) (tsC tI (ts1 tI)))) := ⟨fun x => [.inl x.1, .inl x.2.1, .inl x.2.2], fun x y h => by
  simp only [List.cons.injEq, Sum.inl.injEq, and_true] at h
  exact Prod.ext h.1 (Prod.ext h.2.1 h.2.2), fun F v x ⟨a, vs, e, h, v1, r1, e1, t1, v2, r2, e2, t2, v3, e3, t3⟩ => ⟨a, e, by
    subst e1 e2 e3
    rw [h]
    have t1 : v1 = .int x.1 := t1
    have t2 : v2 = .int x.2.1 := t2
    have t3 : v3 = .int x.2.2 := t3
    rw [t1, t2, t3]
    rfl⟩⟩
end MD
namespace MD
open PySem PySem.Spec PyProof.Rows L2
/-! ### zip of three, its tuples given to one name -/
section
variable {prog : Program} {w : World} {A : Around} {E : Value → Shared → Prop} {s : Shared} {z TI TO i1 i2 i3 T : Addr} {fp1 fp2 fp3 : List Addr} {n1 n2 n3 i : Nat} {P1 P2 P3 : Nat → Value → Prop} {St1 St2 St3 : Nat → Heap → Prop} {a1 a2 a3 u v : Value} {f : Bool}
theorem zm_free {Q : Value → Shared → Prop} (S : ZipSep3 z TI TO i1 i2 i3 fp1 fp2 fp3) (D1 : Draws prog w A i1 fp1 n1 P1 St1) (D2 : Draws prog w A i2 fp2 n2 P2 St2) (D3 : Draws prog w A i3 fp3 n3 P3 St3) (hz : ZR s.heap z TI TO (rawInt T) v) (hT : s.heap.get? T = none)
    (hTI : IsTupOf3 s.heap TI (.ref i1) (.ref i2) (.ref i3)) (hTO : IsTupOf3 s.heap TO a1 a2 a3) (st1 : St1 i s.heap) (st2 : St2 i s.heap) (st3 : St3 i s.heap) (c1 : i < n1) (c2 : i < n2) (c3 : i < n3)
    (hQ : ∀ x1 x2 x3 h' tk, P1 i x1 → P2 i x2 → P3 i x3 → ZR h' z TI TO (rawInt s.heap.objs.size) (.bool false) → IsTupOf3 h' TO x1 x2 x3 → St1 (i + 1) h' → St2 (i + 1) h' → St3 (i + 1) h' → IsTupOf3 h' s.heap.objs.size x1 x2 x3 →
      (∀ c o, c ≠ z → c ≠ TO → c ≠ i1 → c ≠ i2 → c ≠ i3 → s.heap.get? c = some o → h'.get? c = some o) → Q (.ref s.heap.objs.size) { s with heap := h', toks := tk }) :
    wpAny (model prog w) A (Builtin.«zip.__next__» ⟨[.ref z], []⟩) (fun fin s' => ∃ r, fin = .done (.ret r) ∧ Q r s') E s := by
  obtain ⟨hp, g, d, tk0, os⟩ := s
  show wpAny _ _ (field (.ref z) 2 >>= fun r => _) _ _ _
  refine wpAny_bind (wpAny_field hz rfl (x := .bool false) rfl ?_)
  show wpAny _ _ (field (.ref z) 3 >>= fun r => _) _ _ _
  refine wpAny_bind (wpAny_field hz rfl (x := .ref TI) rfl (wpAny_bind (wpAny_seqItems hTI rfl ?_)))
  show wpAny _ _ (Builtin.SmallTypes.ownedTupleIsFree (.ref z) >>= fun r => _) _ _ _
  refine wpAny_bind (free_dead hz hT ?_)
  simp only [if_true]
  refine wpAny_bind (wpAny_rule (wpAny_bind (wpAny_field hz rfl (x := .ref TO) rfl (wpAny_bind (zr_set0 hz fun g0 b0 s0 => ?_)))))
  replace b0 : ZR g0 z TI TO .ellipsis v := b0
  replace s0 : Heap.SameBut z hp g0 := s0
  refine wpAny_bind ?_
  simp only [List.zipIdx_cons, List.forIn_cons, List.zipIdx_nil, List.forIn_nil]
  refine wpAny_bind (wpAny_bind (wpAny_onRaise ?_))
  show wpAny _ _ (Builtin.SmallTypes.nextOf (.ref i1) >>= fun r => _) _ _ ⟨g0, g, d, tk0, os⟩
  refine wpAny_bind (D1.item i _ _ _ c1 (D1.over st1 s0 S.zf1) fun x1 p1 tk1 y1 k1 hp1 => wpAny_pure ?_)
  replace hp1 : Heap.SameBut i1 g0 p1 := hp1
  have hU1 : IsTupOf3 p1 TO a1 a2 a3 := hp1.extBut _ _ S.Ti1 (s0.extBut _ _ S.TOz hTO)
  refine wpAny_bind (wpAny_seqItems (s := ⟨p1, g, d, tk1, os⟩) hU1 rfl (wpAny_bind (updateSeq_IsTupOf3 (s := ⟨p1, g, d, tk1, os⟩) hU1 fun g1 hT1 hs1 => ?_)))
  replace hT1 : IsTupOf3 g1 TO x1 a2 a3 := hT1
  replace hs1 : Heap.SameBut TO p1 g1 := hs1
  refine wpAny_bind (wpAny_letGo (wpAny_pure (wpAny_bind (wpAny_bind (wpAny_onRaise ?_)))))
  show wpAny _ _ (Builtin.SmallTypes.nextOf (.ref i2) >>= fun r => _) _ _ ⟨g1, g, d, tk1, os⟩
  refine wpAny_bind (D2.item i _ _ _ c2 (D2.over (D2.over (D2.over st2 s0 S.zf2) hp1 S.sep1_2) hs1 S.Tf2) fun x2 p2 tk2 y2 k2 hp2 => wpAny_pure ?_)
  replace hp2 : Heap.SameBut i2 g1 p2 := hp2
  have hU2 : IsTupOf3 p2 TO x1 a2 a3 := hp2.extBut _ _ S.Ti2 hT1
  refine wpAny_bind (wpAny_seqItems (s := ⟨p2, g, d, tk2, os⟩) hU2 rfl (wpAny_bind (updateSeq_IsTupOf3 (s := ⟨p2, g, d, tk2, os⟩) hU2 fun g2 hT2 hs2 => ?_)))
  replace hT2 : IsTupOf3 g2 TO x1 x2 a3 := hT2
  replace hs2 : Heap.SameBut TO p2 g2 := hs2
  refine wpAny_bind (wpAny_letGo (wpAny_pure (wpAny_bind (wpAny_bind (wpAny_onRaise ?_)))))
  show wpAny _ _ (Builtin.SmallTypes.nextOf (.ref i3) >>= fun r => _) _ _ ⟨g2, g, d, tk2, os⟩
  refine wpAny_bind (D3.item i _ _ _ c3 (D3.over (D3.over (D3.over (D3.over (D3.over st3 s0 S.zf3) hp1 S.sep1_3) hs1 S.Tf3) hp2 S.sep2_3) hs2 S.Tf3) fun x3 p3 tk3 y3 k3 hp3 => wpAny_pure ?_)
  replace hp3 : Heap.SameBut i3 g2 p3 := hp3
  have hU3 : IsTupOf3 p3 TO x1 x2 a3 := hp3.extBut _ _ S.Ti3 hT2
  refine wpAny_bind (wpAny_seqItems (s := ⟨p3, g, d, tk3, os⟩) hU3 rfl (wpAny_bind (updateSeq_IsTupOf3 (s := ⟨p3, g, d, tk3, os⟩) hU3 fun g3 hT3 hs3 => ?_)))
  replace hT3 : IsTupOf3 g3 TO x1 x2 x3 := hT3
  replace hs3 : Heap.SameBut TO p3 g3 := hs3
  refine wpAny_bind (wpAny_letGo (wpAny_pure (wpAny_pure (wpAny_bind (wpAny_seqItems (s := ⟨g3, g, d, tk3, os⟩) hT3 rfl (wpAny_bind (wpAny_newTuple ?_)))))))
  have hsz : g3.objs.size = hp.objs.size := by rw [hs3.1, hp3.1, hs2.1, hp2.1, hs1.1, hp1.1, s0.1]
  have hzz : ZR g3 z TI TO .ellipsis v := (hs3.extBut _ _ S.TOz.symm (hp3.extBut _ _ S.zi3 (hs2.extBut _ _ S.TOz.symm (hp2.extBut _ _ S.zi2 (hs1.extBut _ _ S.TOz.symm (hp1.extBut _ _ S.zi1 b0))))))
  have hkk : ∀ c o, c ≠ z → c ≠ TO → c ≠ i1 → c ≠ i2 → c ≠ i3 → hp.get? c = some o → g3.get? c = some o := fun c o cz cT d1 d2 d3 e =>
    (hs3.extBut _ _ cT (hp3.extBut _ _ d3 (hs2.extBut _ _ cT (hp2.extBut _ _ d2 (hs1.extBut _ _ cT (hp1.extBut _ _ d1 (s0.extBut _ _ cz e)))))))
  have hj1 : St1 (i + 1) g3 := (D1.over (D1.over (D1.over (D1.over (D1.over k1 hs1 S.Tf1) hp2 S.sep2_1) hs2 S.Tf1) hp3 S.sep3_1) hs3 S.Tf1)
  have hj2 : St2 (i + 1) g3 := (D2.over (D2.over (D2.over k2 hs2 S.Tf2) hp3 S.sep3_2) hs3 S.Tf2)
  have hj3 : St3 (i + 1) g3 := (D3.over k3 hs3 S.Tf3)
  have lz : z < g3.objs.size := Heap.lt_size hzz
  show wpAny _ _ (Builtin.SmallTypes.ownedTupleHandOut (.ref z) (.ref g3.objs.size) >>= fun r => _) _ _ ⟨g3.push { cls := .type "tuple", data := .seq #[x1, x2, x3] }, g, d, tk3, os⟩
  refine wpAny_bind ?_
  unfold Builtin.SmallTypes.ownedTupleHandOut
  have b5 : ZR (g3.push { cls := .type "tuple", data := .seq #[x1, x2, x3] }) z TI TO .ellipsis v := Heap.get?_push_of_some _ hzz
  refine wpAny_bind (zr_set0 b5 fun m6 b6 s6 => ?_)
  replace b6 : ZR m6 z TI TO (rawInt g3.objs.size) v := b6
  refine zr_set1 b6 fun m7 b7 s7 => ?_
  replace b7 : ZR m7 z TI TO (rawInt g3.objs.size) (.bool false) := b7
  replace s6 : Heap.SameBut z (g3.push { cls := .type "tuple", data := .seq #[x1, x2, x3] }) m6 := s6
  replace s7 : Heap.SameBut z m6 m7 := s7
  have up : ∀ c o, c ≠ z → g3.get? c = some o → m7.get? c = some o := fun c o e0 e => s7.extBut _ _ e0 (s6.extBut _ _ e0 (Heap.get?_push_of_some _ e))
  have b8 : IsTupOf3 m7 g3.objs.size x1 x2 x3 := s7.extBut _ _ (Nat.ne_of_gt lz) (s6.extBut _ _ (Nat.ne_of_gt lz) (Heap.get?_push_size _ rfl))
  rw [hsz] at b7 b8
  refine wpAny_pure ⟨_, rfl, ?_⟩
  show Q (.ref g3.objs.size) ⟨m7, g, d, tk3, os⟩
  rw [hsz]
  exact hQ x1 x2 x3 m7 tk3 y1 y2 y3 b7 (up _ _ S.TOz hT3) (D1.frame _ _ _ hj1 fun b hb o e => up b o (fun q => S.zf1 (q ▸ hb)) e) (D2.frame _ _ _ hj2 fun b hb o e => up b o (fun q => S.zf2 (q ▸ hb)) e) (D3.frame _ _ _ hj3 fun b hb o e => up b o (fun q => S.zf3 (q ▸ hb)) e) b8 fun c o e0 e1 e2 e3 e4 e => up c o e0 (hkk c o e0 e1 e2 e3 e4 e)
theorem zm_held {Q : Value → Shared → Prop} {oT : Obj} (S : ZipSep3 z TI TO i1 i2 i3 fp1 fp2 fp3) (D1 : Draws prog w A i1 fp1 n1 P1 St1) (D2 : Draws prog w A i2 fp2 n2 P2 St2) (D3 : Draws prog w A i3 fp3 n3 P3 St3) (hz : IsZipHeld s.heap z TI TO T f) (hT : s.heap.get? T = some oT)
    (hTI : IsTupOf3 s.heap TI (.ref i1) (.ref i2) (.ref i3)) (st1 : St1 i s.heap) (st2 : St2 i s.heap) (st3 : St3 i s.heap) (c1 : i < n1) (c2 : i < n2) (c3 : i < n3)
    (hQ : ∀ x1 x2 x3 h' tk, P1 i x1 → P2 i x2 → P3 i x3 → IsZipHeld h' z TI TO T true → St1 (i + 1) h' → St2 (i + 1) h' → St3 (i + 1) h' → IsTupOf3 h' s.heap.objs.size x1 x2 x3 →
      (∀ c o, c ≠ z → c ≠ i1 → c ≠ i2 → c ≠ i3 → s.heap.get? c = some o → h'.get? c = some o) → Q (.ref s.heap.objs.size) { s with heap := h', toks := tk }) :
    wpAny (model prog w) A (Builtin.«zip.__next__» ⟨[.ref z], []⟩) (fun fin s' => ∃ r, fin = .done (.ret r) ∧ Q r s') E s := by
  obtain ⟨m, g, d, t0, os⟩ := s
  show wpAny _ _ (field (.ref z) 2 >>= fun r => _) _ _ _
  refine wpAny_bind (wpAny_field hz rfl (x := .bool false) rfl ?_)
  show wpAny _ _ (field (.ref z) 3 >>= fun r => _) _ _ _
  refine wpAny_bind (wpAny_field hz rfl (x := .ref TI) rfl (wpAny_bind (wpAny_seqItems hTI rfl ?_)))
  show wpAny _ _ (Builtin.SmallTypes.ownedTupleIsFree (.ref z) >>= fun r => _) _ _ _
  refine wpAny_bind (wpAny_tupleHeld_zip hz hT fun m0 b0 s0 => ?_)
  replace s0 : Heap.SameBut z m m0 := s0
  simp only [if_false, Bool.false_eq_true]
  refine wpAny_bind ?_
  rw [← Array.forIn_toList]
  simp only [List.forIn_nil, List.forIn_cons]
  refine wpAny_bind (wpAny_bind (wpAny_holding ?_))
  show wpAny _ _ (Builtin.SmallTypes.nextOf (.ref i1) >>= fun r => _) _ _ ⟨m0, g, d, t0, os⟩
  refine wpAny_bind (D1.item i _ _ _ c1 (D1.over st1 s0 S.zf1) fun x1 m1 t1 y1 k1 s1 => wpAny_pure (wpAny_pure (wpAny_bind (wpAny_bind (wpAny_holding ?_)))))
  replace s1 : Heap.SameBut i1 m0 m1 := s1
  show wpAny _ _ (Builtin.SmallTypes.nextOf (.ref i2) >>= fun r => _) _ _ ⟨m1, g, d, t1, os⟩
  refine wpAny_bind (D2.item i _ _ _ c2 (D2.over (D2.over st2 s0 S.zf2) s1 S.sep1_2) fun x2 m2 t2 y2 k2 s2 => wpAny_pure (wpAny_pure (wpAny_bind (wpAny_bind (wpAny_holding ?_)))))
  replace s2 : Heap.SameBut i2 m1 m2 := s2
  show wpAny _ _ (Builtin.SmallTypes.nextOf (.ref i3) >>= fun r => _) _ _ ⟨m2, g, d, t2, os⟩
  refine wpAny_bind (D3.item i _ _ _ c3 (D3.over (D3.over (D3.over st3 s0 S.zf3) s1 S.sep1_3) s2 S.sep2_3) fun x3 m3 t3 y3 k3 s3 => wpAny_pure (wpAny_pure (wpAny_pure ?_)))
  replace s3 : Heap.SameBut i3 m2 m3 := s3
  show wpAny _ _ (newTuple [x1, x2, x3] >>= fun r => _) _ _ ⟨m3, g, d, t3, os⟩
  refine wpAny_bind (wpAny_newTuple (wpAny_pure ⟨_, rfl, ?_⟩))
  have sz : m3.objs.size = m.objs.size := by rw [s3.1, s2.1, s1.1, s0.1]
  show Q (.ref m3.objs.size) ⟨m3.push { cls := .type "tuple", data := .seq #[x1, x2, x3] }, g, d, t3, os⟩
  have b3 : IsTupOf3 (m3.push { cls := .type "tuple", data := .seq #[x1, x2, x3] }) m3.objs.size x1 x2 x3 := Heap.get?_push_size _ rfl
  rw [sz] at b3 ⊢
  have bz : IsZipHeld m3 z TI TO T true := s3.extBut _ _ S.zi3 (s2.extBut _ _ S.zi2 (s1.extBut _ _ S.zi1 b0))
  have r1 : St1 (i + 1) m3 := D1.over (D1.over k1 s2 S.sep2_1) s3 S.sep3_1
  have r2 : St2 (i + 1) m3 := D2.over k2 s3 S.sep3_2
  exact hQ x1 x2 x3 _ t3 y1 y2 y3 (Heap.get?_push_of_some _ bz) (D1.frame _ _ _ r1 fun b _ o e => Heap.get?_push_of_some _ e) (D2.frame _ _ _ r2 fun b _ o e => Heap.get?_push_of_some _ e) (D3.frame _ _ _ k3 fun b _ o e => Heap.get?_push_of_some _ e) b3 fun c o e0 e1 e2 e3 e => Heap.get?_push_of_some _ (s3.extBut _ _ e3 (s2.extBut _ _ e2 (s1.extBut _ _ e1 (s0.extBut _ _ e0 e))))
theorem zm_heldEnd {Q : Fin → Shared → Prop} {oT : Obj} (S : ZipSep3 z TI TO i1 i2 i3 fp1 fp2 fp3) (D1 : Draws prog w A i1 fp1 n1 P1 St1) (D2 : Draws prog w A i2 fp2 n2 P2 St2) (D3 : Draws prog w A i3 fp3 n3 P3 St3) (hz : IsZipHeld s.heap z TI TO T f) (hT : s.heap.get? T = some oT)
    (hTI : IsTupOf3 s.heap TI (.ref i1) (.ref i2) (.ref i3)) (st1 : St1 i s.heap) (st2 : St2 i s.heap) (st3 : St3 i s.heap) (l1 : i ≤ n1) (l2 : i ≤ n2) (l3 : i ≤ n3) (hend : i = n1 ∨ i = n2 ∨ i = n3)
    (hE : ∀ h' tk e, (∀ c o, c ≠ z → c ≠ TO → c ≠ i1 → c ≠ i2 → c ≠ i3 → s.heap.get? c = some o → h'.get? c = some o) → (∃ o, h'.get? e = some o ∧ o.cls = .type "StopIteration") → E (.ref e) { s with heap := h', toks := tk }) :
    wpAny (model prog w) A (Builtin.«zip.__next__» ⟨[.ref z], []⟩) Q E s := by
  obtain ⟨m, g, d, t0, os⟩ := s
  show wpAny _ _ (field (.ref z) 2 >>= fun r => _) _ _ _
  refine wpAny_bind (wpAny_field hz rfl (x := .bool false) rfl ?_)
  show wpAny _ _ (field (.ref z) 3 >>= fun r => _) _ _ _
  refine wpAny_bind (wpAny_field hz rfl (x := .ref TI) rfl (wpAny_bind (wpAny_seqItems hTI rfl ?_)))
  show wpAny _ _ (Builtin.SmallTypes.ownedTupleIsFree (.ref z) >>= fun r => _) _ _ _
  refine wpAny_bind (wpAny_tupleHeld_zip hz hT fun m0 b0 s0 => ?_)
  replace s0 : Heap.SameBut z m m0 := s0
  simp only [if_false, Bool.false_eq_true]
  refine wpAny_bind ?_
  rw [← Array.forIn_toList]
  simp only [List.forIn_nil, List.forIn_cons]
  refine wpAny_bind (wpAny_bind (wpAny_holding ?_))
  show wpAny _ _ (Builtin.SmallTypes.nextOf (.ref i1) >>= fun r => _) _ _ ⟨m0, g, d, t0, os⟩
  by_cases c1 : i < n1
  · refine wpAny_bind (D1.item i _ _ _ c1 (D1.over st1 s0 S.zf1) fun x1 m1 t1 y1 k1 s1 => wpAny_pure (wpAny_pure (wpAny_bind (wpAny_bind (wpAny_holding ?_)))))
    replace s1 : Heap.SameBut i1 m0 m1 := s1
    show wpAny _ _ (Builtin.SmallTypes.nextOf (.ref i2) >>= fun r => _) _ _ ⟨m1, g, d, t1, os⟩
    by_cases c2 : i < n2
    · refine wpAny_bind (D2.item i _ _ _ c2 (D2.over (D2.over st2 s0 S.zf2) s1 S.sep1_2) fun x2 m2 t2 y2 k2 s2 => wpAny_pure (wpAny_pure (wpAny_bind (wpAny_bind (wpAny_holding ?_)))))
      replace s2 : Heap.SameBut i2 m1 m2 := s2
      have e3 : i = n3 := by omega
      show wpAny _ _ (Builtin.SmallTypes.nextOf (.ref i3) >>= fun r => _) _ _ ⟨m2, g, d, t2, os⟩
      refine wpAny_bind (D3.done ⟨m2, g, d, t2, os⟩ _ _ (by rw [← e3]; exact D3.over (D3.over (D3.over st3 s0 S.zf3) s1 S.sep1_3) s2 S.sep2_3) fun m3 e s3 he => ?_)
      exact hE m3 t2 e (fun c o q0 q1 q2 q3 q4 q => s3 _ _ q4 (s2.extBut _ _ q3 (s1.extBut _ _ q2 (s0.extBut _ _ q0 q)))) he
    · have e2 : i = n2 := by omega
      refine wpAny_bind (D2.done ⟨m1, g, d, t1, os⟩ _ _ (by rw [← e2]; exact D2.over (D2.over st2 s0 S.zf2) s1 S.sep1_2) fun m3 e s3 he => ?_)
      exact hE m3 t1 e (fun c o q0 q1 q2 q3 q4 q => s3 _ _ q3 (s1.extBut _ _ q2 (s0.extBut _ _ q0 q))) he
  · have e1 : i = n1 := by omega
    refine wpAny_bind (D1.done ⟨m0, g, d, t0, os⟩ _ _ (by rw [← e1]; exact D1.over st1 s0 S.zf1) fun m3 e s3 he => ?_)
    exact hE m3 t0 e (fun c o q0 q1 q2 q3 q4 q => s3 _ _ q2 (s0.extBut _ _ q0 q)) he
theorem zm_freeEnd {Q : Fin → Shared → Prop} (S : ZipSep3 z TI TO i1 i2 i3 fp1 fp2 fp3) (D1 : Draws prog w A i1 fp1 n1 P1 St1) (D2 : Draws prog w A i2 fp2 n2 P2 St2) (D3 : Draws prog w A i3 fp3 n3 P3 St3) (hz : ZR s.heap z TI TO (rawInt T) v) (hT : s.heap.get? T = none)
    (hTI : IsTupOf3 s.heap TI (.ref i1) (.ref i2) (.ref i3)) (hTO : IsTupOf3 s.heap TO a1 a2 a3) (st1 : St1 i s.heap) (st2 : St2 i s.heap) (st3 : St3 i s.heap) (l1 : i ≤ n1) (l2 : i ≤ n2) (l3 : i ≤ n3) (hend : i = n1 ∨ i = n2 ∨ i = n3)
    (hE : ∀ h' tk e, (∀ c o, c ≠ z → c ≠ TO → c ≠ i1 → c ≠ i2 → c ≠ i3 → s.heap.get? c = some o → h'.get? c = some o) → (∃ o, h'.get? e = some o ∧ o.cls = .type "StopIteration") → E (.ref e) { s with heap := h', toks := tk }) :
    wpAny (model prog w) A (Builtin.«zip.__next__» ⟨[.ref z], []⟩) Q E s := by
  obtain ⟨m, g, d, t0, os⟩ := s
  show wpAny _ _ (field (.ref z) 2 >>= fun r => _) _ _ _
  refine wpAny_bind (wpAny_field hz rfl (x := .bool false) rfl ?_)
  show wpAny _ _ (field (.ref z) 3 >>= fun r => _) _ _ _
  refine wpAny_bind (wpAny_field hz rfl (x := .ref TI) rfl (wpAny_bind (wpAny_seqItems hTI rfl ?_)))
  show wpAny _ _ (Builtin.SmallTypes.ownedTupleIsFree (.ref z) >>= fun r => _) _ _ _
  refine wpAny_bind (free_dead hz hT ?_)
  simp only [if_true]
  refine wpAny_bind (wpAny_rule (wpAny_bind (wpAny_field hz rfl (x := .ref TO) rfl (wpAny_bind (zr_set0 hz fun m0 b0 s0 => ?_)))))
  replace b0 : ZR m0 z TI TO .ellipsis v := b0
  replace s0 : Heap.SameBut z m m0 := s0
  refine wpAny_bind ?_
  simp only [List.zipIdx_cons, List.forIn_cons, List.zipIdx_nil, List.forIn_nil]
  refine wpAny_bind (wpAny_bind (wpAny_onRaise ?_))
  show wpAny _ _ (Builtin.SmallTypes.nextOf (.ref i1) >>= fun r => _) _ _ ⟨m0, g, d, t0, os⟩
  have nz : ∀ {mm : Heap} {e : Addr} {oe : Obj}, ZR mm z TI TO .ellipsis v → mm.get? e = some oe → oe.cls = .type "StopIteration" → e ≠ z := fun {mm e oe} bz h1 h2 q => by
    rw [q, bz] at h1
    rw [← Option.some.inj h1] at h2
    exact absurd (Value.type.inj h2) (by decide)
  by_cases c1 : i < n1
  · refine wpAny_bind (D1.item i _ _ _ c1 (D1.over st1 s0 S.zf1) fun x1 m1 t1 y1 k1 s1 => wpAny_pure ?_)
    replace s1 : Heap.SameBut i1 m0 m1 := s1
    have b1 : IsTupOf3 m1 TO a1 a2 a3 := s1.extBut _ _ S.Ti1 (s0.extBut _ _ S.TOz hTO)
    refine wpAny_bind (wpAny_seqItems (s := ⟨m1, g, d, t1, os⟩) b1 rfl (wpAny_bind (updateSeq_IsTupOf3 (s := ⟨m1, g, d, t1, os⟩) b1 fun m2 b2 s2 => ?_)))
    replace b2 : IsTupOf3 m2 TO x1 a2 a3 := b2
    replace s2 : Heap.SameBut TO m1 m2 := s2
    refine wpAny_bind (wpAny_letGo (wpAny_pure (wpAny_bind (wpAny_bind (wpAny_onRaise ?_)))))
    show wpAny _ _ (Builtin.SmallTypes.nextOf (.ref i2) >>= fun r => _) _ _ ⟨m2, g, d, t1, os⟩
    by_cases c2 : i < n2
    · refine wpAny_bind (D2.item i _ _ _ c2 (D2.over (D2.over (D2.over st2 s0 S.zf2) s1 S.sep1_2) s2 S.Tf2) fun x2 m3 t2 y2 k2 s3 => wpAny_pure ?_)
      replace s3 : Heap.SameBut i2 m2 m3 := s3
      have b3 : IsTupOf3 m3 TO x1 a2 a3 := s3.extBut _ _ S.Ti2 b2
      refine wpAny_bind (wpAny_seqItems (s := ⟨m3, g, d, t2, os⟩) b3 rfl (wpAny_bind (updateSeq_IsTupOf3 (s := ⟨m3, g, d, t2, os⟩) b3 fun m4 b4 s4 => ?_)))
      replace b4 : IsTupOf3 m4 TO x1 x2 a3 := b4
      replace s4 : Heap.SameBut TO m3 m4 := s4
      have e3 : i = n3 := by omega
      refine wpAny_bind (wpAny_letGo (wpAny_pure (wpAny_bind (wpAny_bind (wpAny_onRaise ?_)))))
      show wpAny _ _ (Builtin.SmallTypes.nextOf (.ref i3) >>= fun r => _) _ _ ⟨m4, g, d, t2, os⟩
      refine wpAny_bind (D3.done ⟨m4, g, d, t2, os⟩ _ _ (by rw [← e3]; exact D3.over (D3.over (D3.over (D3.over (D3.over st3 s0 S.zf3) s1 S.sep1_3) s2 S.Tf3) s3 S.sep2_3) s4 S.Tf3) fun m5 e s5 he => ?_)
      replace s5 : Heap.ExtBut i3 m4 m5 := s5
      obtain ⟨oe, h1, h2⟩ := he
      replace h1 : m5.get? e = some oe := h1
      have bz : ZR m5 z TI TO .ellipsis v := s5 _ _ S.zi3 (s4.extBut _ _ S.TOz.symm (s3.extBut _ _ S.zi2 (s2.extBut _ _ S.TOz.symm (s1.extBut _ _ S.zi1 b0))))
      refine zr_set0 (s := ⟨m5, g, d, t2, os⟩) bz fun m6 _ s6 => ?_
      replace s6 : Heap.SameBut z m5 m6 := s6
      exact hE m6 t2 e (fun c o q0 q1 q2 q3 q4 q => s6.extBut _ _ q0 (s5 _ _ q4 (s4.extBut _ _ q1 (s3.extBut _ _ q3 (s2.extBut _ _ q1 (s1.extBut _ _ q2 (s0.extBut _ _ q0 q))))))) ⟨oe, s6.extBut _ _ (nz bz h1 h2) h1, h2⟩
    · have e2 : i = n2 := by omega
      refine wpAny_bind (D2.done ⟨m2, g, d, t1, os⟩ _ _ (by rw [← e2]; exact D2.over (D2.over (D2.over st2 s0 S.zf2) s1 S.sep1_2) s2 S.Tf2) fun m3 e s3 he => ?_)
      replace s3 : Heap.ExtBut i2 m2 m3 := s3
      obtain ⟨oe, h1, h2⟩ := he
      replace h1 : m3.get? e = some oe := h1
      have bz : ZR m3 z TI TO .ellipsis v := s3 _ _ S.zi2 (s2.extBut _ _ S.TOz.symm (s1.extBut _ _ S.zi1 b0))
      refine zr_set0 (s := ⟨m3, g, d, t1, os⟩) bz fun m4 _ s4 => ?_
      replace s4 : Heap.SameBut z m3 m4 := s4
      exact hE m4 t1 e (fun c o q0 q1 q2 q3 q4 q => s4.extBut _ _ q0 (s3 _ _ q3 (s2.extBut _ _ q1 (s1.extBut _ _ q2 (s0.extBut _ _ q0 q))))) ⟨oe, s4.extBut _ _ (nz bz h1 h2) h1, h2⟩
  · have e1 : i = n1 := by omega
    refine wpAny_bind (D1.done ⟨m0, g, d, t0, os⟩ _ _ (by rw [← e1]; exact D1.over st1 s0 S.zf1) fun m3 e s3 he => ?_)
    replace s3 : Heap.ExtBut i1 m0 m3 := s3
    obtain ⟨oe, h1, h2⟩ := he
    replace h1 : m3.get? e = some oe := h1
    have bz : ZR m3 z TI TO .ellipsis v := s3 _ _ S.zi1 b0
    refine zr_set0 (s := ⟨m3, g, d, t0, os⟩) bz fun m4 _ s4 => ?_
    replace s4 : Heap.SameBut z m3 m4 := s4
    exact hE m4 t0 e (fun c o q0 q1 q2 q3 q4 q => s4.extBut _ _ q0 (s3 _ _ q2 (s0.extBut _ _ q0 q))) ⟨oe, s4.extBut _ _ (nz bz h1 h2) h1, h2⟩
end
/-! ### the walk -/
def ItzM (k k2 k3 : Bool) (K : PySem.W.Frag) (a b c : Addr) (n : Nat) : It :=
  ⟨fun i H => i < n ∧ ∃ (xs ys zs : List V) (x y z : V), SqK k K H a xs ∧ SqK k2 K H b ys ∧ SqK k3 K H c zs ∧ xs[i]? = some x ∧ ys[i]? = some y ∧ zs[i]? = some z,
    fun i H v H' => ∃ T x y z, v = .ref T ∧ H T = none ∧ H' = upd H T (.tup [x, y, z]) ∧ (∀ xs, SqK k K H a xs → xs[i]? = some x) ∧ (∀ ys, SqK k2 K H b ys → ys[i]? = some y) ∧ ∀ zs, SqK k3 K H c zs → zs[i]? = some z,
    fun i H => ∃ xs ys zs : List V, SqK k K H a xs ∧ SqK k2 K H b ys ∧ SqK k3 K H c zs ∧ n = min (min xs.length ys.length) zs.length ∧ n ≤ i⟩
abbrev TnM (k k2 k3 : Bool) (z TI TO i1 i2 i3 a b c : Addr) (i : Nat) (h : Heap) : Prop :=
  (IsZip h z TI TO .none ∨ ∃ T f, IsZipHeld h z TI TO T f) ∧ IsTupOf3 h TI (.ref i1) (.ref i2) (.ref i3) ∧ (∃ a1 a2 a3, IsTupOf3 h TO a1 a2 a3) ∧ ItK k h i1 a i ∧ ItK k2 h i2 b i ∧ ItK k3 h i3 c i
theorem tnM_obj {k k2 k3 : Bool} {z TI TO i1 i2 i3 a b c : Addr} {i : Nat} {h : Heap} (st : TnM k k2 k3 z TI TO i1 i2 i3 a b c i h) : ∀ d ∈ [z, TI, TO, i1, i2, i3], ∃ o, h.get? d = some o ∧ ∀ v, o.data ≠ .cell v := fun d hd => by
  obtain ⟨hz, hTI, ⟨x, y, u, hTO⟩, h1, h2, h3⟩ := st
  have e' : d = z ∨ d = TI ∨ d = TO ∨ d = i1 ∨ d = i2 ∨ d = i3 := by simpa using hd
  rcases e' with q | q | q | q | q | q
  · rw [q]
    rcases hz with hz | ⟨T, f, hz⟩
    · exact ⟨_, hz, fun v q => nomatch q⟩
    · exact ⟨_, hz, fun v q => nomatch q⟩
  · rw [q]; exact ⟨_, hTI, fun v q => nomatch q⟩
  · rw [q]; exact ⟨_, hTO, fun v q => nomatch q⟩
  · rw [q]; exact h1.obj
  · rw [q]; exact h2.obj
  · rw [q]; exact h3.obj
theorem turn_zipM {P : Program} {w : World} {K : PySem.W.Frag} {nm : Str} {tpos : Pos} (k k2 k3 : Bool) (n : Nat) {a b c z TI TO i1 i2 i3 : Addr} (S : ZipSep3 z TI TO i1 i2 i3 [i1, a] [i2, b] [i3, c]) (d1 : a ≠ i1) (d2 : b ≠ i2) (d3 : c ≠ i3) :
    Turn P w K (.Name nm tpos) (ItzM k k2 k3 K a b c n) [z, TI, TO, i1, i2, i3] z (fun i h => TnM k k2 k3 z TI TO i1 i2 i3 a b c i h ∧ i ≤ n) where
  mem := by simp
  obj := fun i h st d hd => tnM_obj st.1 d hd
  keep := fun i h h' st kp => by
    obtain ⟨⟨hz, hTI, ⟨x, y, u, hTO⟩, h1, h2, h3⟩, hn⟩ := st
    refine ⟨⟨?_, kp TI (by simp) _ hTI, ⟨x, y, u, kp TO (by simp) _ hTO⟩, h1.at fun o q => kp i1 (by simp) o q, h2.at fun o q => kp i2 (by simp) o q, h3.at fun o q => kp i3 (by simp) o q⟩, hn⟩
    rcases hz with hz | ⟨T, f, hz⟩
    · exact .inl (kp z (by simp) _ hz)
    · exact .inr ⟨T, f, kp z (by simp) _ hz⟩
  item := by
    intro X hP hw hK hc i pins s σ H E I hf st hg
    subst hP hw hK
    obtain ⟨st0, _⟩ := st
    obtain ⟨hz, hTI, ⟨a1, a2, a3, hTO⟩, h1, h2, h3⟩ := id st0
    obtain ⟨hlt, xs, ys, zs, x, y, u, hqx, hqy, hqz, hx, hy, hu⟩ := hg
    obtain ⟨l1, rv1, p1, _⟩ := inv_sqK I hqx
    obtain ⟨l2, rv2, p2, _⟩ := inv_sqK I hqy
    obtain ⟨l3, rv3, p3, _⟩ := inv_sqK I hqz
    obtain ⟨v1, hv1, r1⟩ := rv1.get hx
    obtain ⟨v2, hv2, r2⟩ := rv2.get hy
    obtain ⟨v3, hv3, r3⟩ := rv3.get hu
    have hh : X.A.in1.handled = none := I.ok.hd hc
    have D1 := drawsK (prog := X.prog) (w := X.w) k hh i1 a d1 l1.toArray
    have D2 := drawsK (prog := X.prog) (w := X.w) k2 hh i2 b d2 l2.toArray
    have D3 := drawsK (prog := X.prog) (w := X.w) k3 hh i3 c d3 l3.toArray
    have b1 : i < l1.toArray.size := by rw [List.size_toArray]; exact (List.getElem?_eq_some_iff.mp hv1).1
    have b2 : i < l2.toArray.size := by rw [List.size_toArray]; exact (List.getElem?_eq_some_iff.mp hv2).1
    have b3 : i < l3.toArray.size := by rw [List.size_toArray]; exact (List.getElem?_eq_some_iff.mp hv3).1
    have fin : ∀ (w1 w2 w3 : Value) (h' : Heap) (tk : Nat), l1.toArray[i]? = some w1 → l2.toArray[i]? = some w2 → l3.toArray[i]? = some w3 → (∃ T f, IsZipHeld h' z TI TO T f) → (∃ a1 a2 a3, IsTupOf3 h' TO a1 a2 a3) → (ItK k h' i1 a (i + 1) ∧ CoK k h' a l1.toArray) → (ItK k2 h' i2 b (i + 1) ∧ CoK k2 h' b l2.toArray) → (ItK k3 h' i3 c (i + 1) ∧ CoK k3 h' c l3.toArray) → IsTupOf3 h' s.heap.objs.size w1 w2 w3 →
        (∀ d o, d ∉ [z, TI, TO, i1, i2, i3] → s.heap.get? d = some o → h'.get? d = some o) → IsTupOf3 h' TI (.ref i1) (.ref i2) (.ref i3) →
        ∃ u, some (Value.ref s.heap.objs.size) = some u ∧ wpAny (model X.prog X.w) X.A (letOwnedTupleGo (.Name nm tpos) (.ref z) u) (fun _ s2 => ∃ x H', Inv X pins σ H' s2 ∧ RelV x u ∧ (ItzM k k2 k3 X.K a b c n).yld i H x H' ∧ (TnM k k2 k3 z TI TO i1 i2 i3 a b c (i + 1) s2.heap ∧ i + 1 ≤ n) ∧ ∀ d ∈ [z, TI, TO, i1, i2, i3], H' d = none) E { s with heap := h', toks := tk } := fun w1 w2 w3 h' tk q1 q2 q3 qz qTO g1 g2 g3 qT hk qTI => by
      have e1 : w1 = v1 := by
        rw [List.getElem?_toArray, hv1] at q1
        exact (Option.some.inj q1).symm
      have e2 : w2 = v2 := by
        rw [List.getElem?_toArray, hv2] at q2
        exact (Option.some.inj q2).symm
      have e3 : w3 = v3 := by
        rw [List.getElem?_toArray, hv3] at q3
        exact (Option.some.inj q3).symm
      subst e1 e2 e3
      have new : ObjOk X.prog X.w (upd H s.heap.objs.size (.tup [x, y, u])) h' s.heap.objs.size (.tup [x, y, u]) :=
        ⟨by show 3 ≤ sizeLine; decide, [w1, w2, w3], .cons r1 (.cons r2 (.cons r3 .nil)), ⟨_, qT, rfl, _, rfl⟩⟩
      have I1 : Inv X pins σ (upd H s.heap.objs.size (.tup [x, y, u])) { s with heap := h', toks := tk } :=
        I.turnedNew (t' := tk) (ch := [z, TI, TO, i1, i2, i3]) (fun d o hb q => hk d o hb q) hf (Nat.le_refl _) new
      refine ⟨_, rfl, wpAny_pure ⟨.ref s.heap.objs.size, _, I1, rfl, ⟨s.heap.objs.size, x, y, u, rfl, I.hok.fresh (Nat.le_refl _), rfl, fun l hl => by rw [inv_injK I hl hqx]; exact hx, fun l hl => by rw [inv_injK I hl hqy]; exact hy, fun l hl => by rw [inv_injK I hl hqz]; exact hu⟩, ⟨⟨.inr qz, qTI, qTO, g1.1, g2.1, g3.1⟩, hlt⟩, fun d hd => ?_⟩⟩
      obtain ⟨o, ho, _⟩ := tnM_obj st0 d hd
      rw [upd_ne (Nat.ne_of_lt (Heap.lt_size ho))]
      exact (hf d hd).1
    rcases hz with hz | ⟨T, f, hz⟩
    · refine wpAny_pyNext_zipD3_item S D1 D2 D3 hz hTI hTO ⟨h1, p1⟩ ⟨h2, p2⟩ ⟨h3, p3⟩ b1 b2 b3 fun x1 x2 x3 h' tk q1 q2 q3 qz qTO g1 g2 g3 qT _ hk => ?_
      exact fin x1 x2 x3 h' tk q1 q2 q3 ⟨_, _, qz⟩ ⟨_, _, _, qTO⟩ g1 g2 g3 qT (fun d o hb e => hk d o (fun q => hb (by simp [q])) (fun q => hb (by simp [q])) (fun q => hb (by simp [q])) (fun q => hb (by simp [q])) (fun q => hb (by simp [q])) e) (hk _ _ S.TIz S.TITO S.TIi1 S.TIi2 S.TIi3 hTI)
    · cases hT : s.heap.get? T with
      | none =>
        refine zn_next hz fun E' => zm_free S D1 D2 D3 hz hT hTI hTO ⟨h1, p1⟩ ⟨h2, p2⟩ ⟨h3, p3⟩ b1 b2 b3 fun x1 x2 x3 h' tk q1 q2 q3 qz qTO g1 g2 g3 qT hk => ?_
        exact fin x1 x2 x3 h' tk q1 q2 q3 ⟨_, _, qz⟩ ⟨_, _, _, qTO⟩ g1 g2 g3 qT (fun d o hb e => hk d o (fun q => hb (by simp [q])) (fun q => hb (by simp [q])) (fun q => hb (by simp [q])) (fun q => hb (by simp [q])) (fun q => hb (by simp [q])) e) (hk _ _ S.TIz S.TITO S.TIi1 S.TIi2 S.TIi3 hTI)
      | some oT =>
        refine zn_next hz fun E' => zm_held S D1 D2 D3 hz hT hTI ⟨h1, p1⟩ ⟨h2, p2⟩ ⟨h3, p3⟩ b1 b2 b3 fun x1 x2 x3 h' tk q1 q2 q3 qz g1 g2 g3 qT hk => ?_
        exact fin x1 x2 x3 h' tk q1 q2 q3 ⟨_, _, qz⟩ ⟨_, _, _, hk _ _ S.TOz S.Ti1 S.Ti2 S.Ti3 hTO⟩ g1 g2 g3 qT (fun d o hb e => hk d o (fun q => hb (by simp [q])) (fun q => hb (by simp [q])) (fun q => hb (by simp [q])) (fun q => hb (by simp [q])) e) (hk _ _ S.TIz S.TIi1 S.TIi2 S.TIi3 hTI)
  done := by
    intro X hP hw hK hc i pins s σ H E I hf st hg
    subst hP hw hK
    obtain ⟨⟨hz, hTI, ⟨a1, a2, a3, hTO⟩, h1, h2, h3⟩, hle⟩ := st
    obtain ⟨xs, ys, zs, hqx, hqy, hqz, hend, hge⟩ := hg
    obtain ⟨l1, rv1, p1, _⟩ := inv_sqK I hqx
    obtain ⟨l2, rv2, p2, _⟩ := inv_sqK I hqy
    obtain ⟨l3, rv3, p3, _⟩ := inv_sqK I hqz
    have hh : X.A.in1.handled = none := I.ok.hd hc
    have D1 := drawsK (prog := X.prog) (w := X.w) k hh i1 a d1 l1.toArray
    have D2 := drawsK (prog := X.prog) (w := X.w) k2 hh i2 b d2 l2.toArray
    have D3 := drawsK (prog := X.prog) (w := X.w) k3 hh i3 c d3 l3.toArray
    have g1 := rv1.length
    have g2 := rv2.length
    have g3 := rv3.length
    have c1 : i ≤ l1.toArray.size := by rw [List.size_toArray]; omega
    have c2 : i ≤ l2.toArray.size := by rw [List.size_toArray]; omega
    have c3 : i ≤ l3.toArray.size := by rw [List.size_toArray]; omega
    have c4 : i = l1.toArray.size ∨ i = l2.toArray.size ∨ i = l3.toArray.size := by rw [List.size_toArray, List.size_toArray, List.size_toArray]; omega
    have fin : ∀ h' tk, (∀ d o, d ∉ [z, TI, TO, i1, i2, i3] → s.heap.get? d = some o → h'.get? d = some o) → (none : Option Value) = none ∧ Inv X pins σ H { s with heap := h', toks := tk } := fun h' tk hk => ⟨rfl, I.turnedL (t' := tk) (ch := [z, TI, TO, i1, i2, i3]) hk hf⟩
    have lead : ∀ {h' : Heap}, (∀ d o, d ≠ z → d ≠ TO → d ≠ i1 → d ≠ i2 → d ≠ i3 → s.heap.get? d = some o → h'.get? d = some o) → ∀ d o, d ∉ [z, TI, TO, i1, i2, i3] → s.heap.get? d = some o → h'.get? d = some o := fun hk d o hb e => hk d o (fun q => hb (by simp [q])) (fun q => hb (by simp [q])) (fun q => hb (by simp [q])) (fun q => hb (by simp [q])) (fun q => hb (by simp [q])) e
    rcases hz with hz | ⟨T, f, hz⟩
    · exact wpAny_pyNext_zipD3_end S D1 D2 D3 hz hTI hTO ⟨h1, p1⟩ ⟨h2, p2⟩ ⟨h3, p3⟩ c1 c2 c3 c4 fun h' tk hk => fin h' tk (lead hk)
    · cases hT : s.heap.get? T with
      | none => exact zn_stop hz (fun Q' E' hE => zm_freeEnd S D1 D2 D3 hz hT hTI hTO ⟨h1, p1⟩ ⟨h2, p2⟩ ⟨h3, p3⟩ c1 c2 c3 c4 hE) fun h' tk hk => fin h' tk (lead hk)
      | some oT => exact zn_stop hz (fun Q' E' hE => zm_heldEnd S D1 D2 D3 hz hT hTI ⟨h1, p1⟩ ⟨h2, p2⟩ ⟨h3, p3⟩ c1 c2 c3 c4 hE) fun h' tk hk => fin h' tk (lead hk)
  self := fun A i s Q E st h => by
    obtain ⟨⟨hz, _⟩, _⟩ := st
    rcases hz with hz | ⟨T, f, hz⟩
    · exact wpAny_pyIter_zip hz h
    · have ht : s.TypeIs (.ref z) "zip" := ⟨_, hz, rfl⟩
      exact wpAny_pyIter_slot ht F.slot_zip_iter (wpAny_call_entry F.slot_zip_iter ht F.entry_zip_iter (show wpAny _ _ (ret (.ref z)) _ _ s from wpAny_pure ⟨_, rfl, "zip", _, ht, F.slot_zip_next.lookup, h⟩) (F.args_zip_iter_1 _))
theorem pi_zipM (k k2 k3 : Bool) {X : Cx} {e e2 e3 : Expr} {ta : TA} {nm : Str} {p pos tpos : Pos} (hg : Gl X "zip") (hm : X.mg "zip" = none) (ha : PA X [e, e2, e3] ta)
    (hs : starEach [e, e2, e3] X.env = (false, eval e X.env) :: starEach [e2, e3] X.env := by rfl) (hpl : (backTo pos (starEach [e2, e3] X.env)).any (·.1) = false := by rfl) :
    PI X (.Name nm tpos) (.Call (.Name "zip" p) [e, e2, e3] [] pos) (fun σ H R => ta σ H fun vs H1 => ∃ a b c xs ys zs, vs = [.ref a, .ref b, .ref c] ∧ SqK k X.K H1 a xs ∧ SqK k2 X.K H1 b ys ∧ SqK k3 X.K H1 c zs ∧ R (ItzM k k2 k3 X.K a b c (min (min xs.length ys.length) zs.length)) H1) := by
  refine ⟨fun pins s σ H R I h => ?_⟩
  refine Call_ (ld_blt I hg hm PyProof.Rows.boot_zip (PyProof.Rows.callWith_type1 (thn (ha.run pos pins s σ H _ I h) fun us s1 ⟨vs, H1, I1, r1, q1⟩ => ?_) hs hpl))
  obtain ⟨a, b, c, xs, ys, zs, ex, hqx, hqy, hqz, q⟩ := q1
  subst ex
  cases r1 with
  | cons r rr =>
    cases rr with
    | cons r' rr =>
      cases rr with
      | cons r'' rr =>
        cases rr
        cases r
        cases r'
        cases r''
        obtain ⟨l1, rv1, p1, _⟩ := inv_sqK I1 hqx
        obtain ⟨l2, rv2, p2, _⟩ := inv_sqK I1 hqy
        obtain ⟨l3, rv3, p3, _⟩ := inv_sqK I1 hqz
        have la := p1.lt
        have lb := p2.lt
        have lc := p3.lt
        obtain ⟨o1, B1, t1⟩ := beginsK k a l1.toArray
        obtain ⟨o2, B2, t2⟩ := beginsK k2 b l2.toArray
        obtain ⟨o3, B3, t3⟩ := beginsK k3 c l3.toArray
        refine zip_begins3 B1 B2 B3 p1 p2 p3 fun h' hz hTI hTO h1 h2 h3 hsz hk => wpAny_pyIter_zip hz ?_
        have I2 : Inv X pins σ H1 { s1 with heap := h' } := I1.kept (t' := s1.toks) hk
        have hS : ZipSep3 (s1.heap.objs.size + 5) (s1.heap.objs.size + 3) (s1.heap.objs.size + 4) s1.heap.objs.size (s1.heap.objs.size + 1) (s1.heap.objs.size + 2) [s1.heap.objs.size, a] [s1.heap.objs.size + 1, b] [s1.heap.objs.size + 2, c] :=
          zip_sep3 (fun d hd => by rw [List.mem_singleton.mp hd]; exact la) (fun d hd => by rw [List.mem_singleton.mp hd]; exact lb) (fun d hd => by rw [List.mem_singleton.mp hd]; exact lc)
        have na : (a : Nat) ≠ s1.heap.objs.size := Nat.ne_of_lt la
        have nb : (b : Nat) ≠ s1.heap.objs.size + 1 := Nat.ne_of_lt (Nat.lt_succ_of_lt lb)
        have nc : (c : Nat) ≠ s1.heap.objs.size + 2 := Nat.ne_of_lt (Nat.lt_succ_of_lt (Nat.lt_succ_of_lt lc))
        refine ⟨s1.heap.objs.size + 5, [s1.heap.objs.size + 5, s1.heap.objs.size + 3, s1.heap.objs.size + 4, s1.heap.objs.size, s1.heap.objs.size + 1, s1.heap.objs.size + 2], _, _, H1, rfl, I2, turn_zipM k k2 k3 (min (min xs.length ys.length) zs.length) hS na nb nc, ⟨⟨.inl hz, hTI, ⟨_, _, _, hTO⟩, t1 _ _ h1, t2 _ _ h2, t3 _ _ h3⟩, Nat.zero_le _⟩, fun d hd => ?_, q⟩
        have e' : d = s1.heap.objs.size + 5 ∨ d = s1.heap.objs.size + 3 ∨ d = s1.heap.objs.size + 4 ∨ d = s1.heap.objs.size ∨ d = s1.heap.objs.size + 1 ∨ d = s1.heap.objs.size + 2 := by simpa using hd
        have hle : s1.heap.objs.size ≤ d := by
          rcases e' with z | z | z | z | z | z
          · rw [z]; exact Nat.le_add_right _ _
          · rw [z]; exact Nat.le_add_right _ _
          · rw [z]; exact Nat.le_add_right _ _
          · rw [z]; exact Nat.le_refl _
          · rw [z]; exact Nat.le_add_right _ _
          · rw [z]; exact Nat.le_add_right _ _
        exact I1.fpOk hle (I1.hok.fresh hle)
section
variable {X : Cx} {ρ : List (Slot X.K)} {cs : List (Cell X.K)} {α β γ : Type} {pos : Pos}
theorem ik_zipM (k k2 k3 : Bool) {a b c : Expr} {T : Ty X.K α} {U : Ty X.K β} {V3 : Ty X.K γ} {S1 : Ty X.K (List α)} {S2 : Ty X.K (List β)} {S3 : Ty X.K (List γ)} {xs : List α} {ys : List β} {zs : List γ} {P1 P2 P3 : Prop} {nm : Str} {p tpos : Pos} (hm : X.mg "zip" = none)
    (sq1 : ∀ F v x, S1.rep F v x → ∃ a vs, v = .ref a ∧ (∀ H, Same F H → SqK k X.K H a vs) ∧ Rl T F vs x ∧ vs.length ≤ sizeLine) (sq2 : ∀ F v x, S2.rep F v x → ∃ a vs, v = .ref a ∧ (∀ H, Same F H → SqK k2 X.K H a vs) ∧ Rl U F vs x ∧ vs.length ≤ sizeLine)
    (sq3 : ∀ F v x, S3.rep F v x → ∃ a vs, v = .ref a ∧ (∀ H, Same F H → SqK k3 X.K H a vs) ∧ Rl V3 F vs x ∧ vs.length ≤ sizeLine)
    (h1 : PK X a ρ cs S1 xs P1) (h2 : PK X b ρ cs S2 ys P2) (h3 : PK X c ρ cs S3 zs P3) (hg : Gl X "zip" := by rfl)
    (hs : starEach [a, b, c] X.env = (false, eval a X.env) :: starEach [b, c] X.env := by rfl) (hs2 : starEach [b, c] X.env = (false, eval b X.env) :: starEach [c] X.env := by rfl) (hs3 : starEach [c] X.env = (false, eval c X.env) :: starEach [] X.env := by rfl)
    (hpl : (backTo pos (starEach [b, c] X.env)).any (·.1) = false := by rfl) :
    IK X (.Name nm tpos) (.Call (.Name "zip" p) [a, b, c] [] pos) ρ cs (tT (tsC T (tsC U (ts1 V3)))) (xs.zip (ys.zip zs)) (P1 ∧ P2 ∧ P3) := fun F σ H ok q R kr => by
  refine wi (pi_zipM k k2 k3 hg hm (pa_cons pe_w (pa_cons pe_w (pa_cons pe_w pa_nil hs3) hs2) hs) hs hpl) ?_
  refine h1 F σ H ok q.1 _ fun v F1 H1 g1 r1 => ?_
  refine h2 F1 σ H1 (ok.grow g1) q.2.1 _ fun w F2 H2 g2 r2 => ?_
  refine h3 F2 σ H2 ((ok.grow g1).grow g2) q.2.2 _ fun u F3 H3 g3 r3 => ?_
  obtain ⟨a1, vs, e1, q1, rl1, z1⟩ := sq1 _ _ _ (S1.mono (g2.ff.trans g3.ff) r1)
  obtain ⟨a2, ws, e2, q2, rl2, z2⟩ := sq2 _ _ _ (S2.mono g3.ff r2)
  obtain ⟨a3, us, e3, q3, rl3, z3⟩ := sq3 _ _ _ r3
  have fh := g3.fh
  have ml : min (min vs.length ws.length) us.length = (xs.zip (ys.zip zs)).length := by
    rw [List.length_zip, List.length_zip, Rl.length rl1, Rl.length rl2, Rl.length rl3]
    omega
  refine ⟨a1, a2, a3, vs, ws, us, by rw [e1, e2, e3], q1 _ fh, q2 _ fh, q3 _ fh, kr _ F3 H3 (g1.trans (g2.trans g3)) (fun i F4 H4 e4 e5 => ?_) (by rw [← ml]; omega)⟩
  have s1 := q1 _ (e4.trans e5)
  have s2 := q2 _ (e4.trans e5)
  have s3 := q3 _ (e4.trans e5)
  refine ⟨fun z hz => ?_, fun hi => ⟨vs, ws, us, s1, s2, s3, rfl, by rw [ml]; exact hi⟩⟩
  obtain ⟨hx, hy, hu⟩ := zip_get3 hz
  obtain ⟨v1, hv1, rv1⟩ := rl_get rl1 hx
  obtain ⟨w1, hw1, rw1⟩ := rl_get rl2 hy
  obtain ⟨u1, hu1, ru1⟩ := rl_get rl3 hu
  refine ⟨⟨by rw [ml]; exact (List.getElem?_eq_some_iff.mp hz).1, vs, ws, us, v1, w1, u1, s1, s2, s3, hv1, hw1, hu1⟩, fun v' H5 ⟨t, x', y', z', ev, hn, eh, hx', hy', hu'⟩ => ?_⟩
  have t1 := (hx' vs s1).symm.trans hv1
  have t2 := (hy' ws s2).symm.trans hw1
  have t3 := (hu' us s3).symm.trans hu1
  cases t1; cases t2; cases t3
  subst ev; subst eh
  obtain ⟨g6, r6⟩ := grow_tup3 (T1 := T) (T2 := U) (T3 := V3) (x := z.1) (y := z.2.1) (z := z.2.2) e5 hn (T.mono e4 rv1) (U.mono e4 rw1) (V3.mono e4 ru1)
  exact ⟨_, g6, r6⟩
end
end MD
namespace MD
open PySem PySem.Spec PyProof.Rows L2
/-! ### raising an exception whose class has no __init__ of its own: C() -/
def bmVE : List Value := [.type "ValueError", .type "Exception", .type "BaseException", .type "object"]
section
variable {X : Cx} {fl : Hp} {B : Hb X.K} {Y : Ec X.K} {ρ : List (Slot X.K)} {cs : List (Cell X.K)} {p pos : Pos} {rest : List Stmt} {D : Ends}
theorem pmk_own0 {x : Str} {C : Addr} (ox : OexC X.K C) (q : PySem.W.excIn X.K C bmVE "ValueError.__new__" = true) (gC : X.mg x = some (.ref C)) (hg : Gl X x)
    (hdb : (x == ("__debug__" : Str)) = false := by decide) : PMk X (.Call (.Name x p) [] [] pos) (fun _ H Q => Q (.ref C) none H) := by
  intro pins s σ H Q I h
  refine wpAny_Call_Name_kw (ld_glob I hg gC ?_ hdb)
  refine PySem.W.callWith_K0 I.kIn ox.kC ?_
  show wpAny _ _ (call (.ref C) []) _ _ _
  obtain ⟨bm, N, nm, qn, bs, hdct, sn, sub, ab, col, dd, k0, k1, k2, k3, k5, mN, hC, hN, hni, T⟩ := exc_obj I.kIn q
  refine wpAny_call_exc_subT PySem.F.excBase_ValueError T hC hN hni (fun h' e hm => ?_) (by show 0 ≤ sizeLine; omega)
  exact mk_of I hm (raises_own ox.exC ox.tyC) h (I.hok.gone hm.new)
theorem sk_raise0 {nm : Str} {C : Addr} {pos2 : Pos} (hc : X.calm = true) (T : XcT X.K X.mg nm C) (q : PySem.W.excIn X.K C bmVE "ValueError.__new__" = true) (hk : ∀ c ∈ Y.kp, c ∈ cs) (hg : Gl X nm := by rfl) (hdb : (nm == ("__debug__" : Str)) = false := by decide) :
    SK X B Y fl (.Raise (some (.Call (.Name nm p) [] [] pos)) none pos2 :: rest) ρ cs D (Y.ε ⟨C, []⟩) := fun F σ H ok hq W tk hx' => by
  refine wb (pss_cons (ps_raise hc tk (pmk_own0 T.ox q T.gC hg hdb)) pss_w) ?_
  exact hx' _ _ _ cs F H σ ok.mv hk ⟨rfl, .inl ⟨rfl, rfl⟩⟩ hq
end
end MD
namespace MD
open PySem PySem.Spec PyProof.Rows L2 PySem.W
/-! ### sorted(set(ints)), any number of them -/
section
variable {P : Program} {w : World} {A : Around} {E : Value → Shared → Prop} {s : Shared} {a : Addr}
theorem sorted_setO {S : Int → Bool} {n : Nat} {Q : Value → Shared → Prop} (R : SetR w s.heap a S n) (hh : A.handled = none) (hz : n ≤ sizeLine)
    (hQ : ∀ s' p (out : Array Value) (c : Nat) (ns : List Int), (∀ b o, s.heap.get? b = some o → s'.heap.get? b = some o) → s'.gens = s.gens → s'.os = s.os → s.heap.objs.size ≤ p →
      s'.heap.get? p = some (seqObj "list" out c) → IntsAre out.toList ns → ns.Pairwise (· < ·) → (∀ k, k ∈ ns ↔ S k = true) → ns.length = n → Q (.ref p) s') :
    wpAny (model P w) A (call (.builtin "sorted") [.ref a]) Q E s := by
  obtain ⟨o, es, ep, t, ho, hex, hd, g, nd, hm, hb, hf, hn, hr, hl⟩ := R
  refine Calls.call_function_entry kind_sorted plain_sorted entry_sorted (args_sorted1 _) ?_
  unfold Builtin.«sorted»
  refine wpAny_bind (m := checkCount "sorted" 1 1 _) (wpAny_pure ?_)
  refine wpAny_bind (collect_set (A := A.in1) hh ⟨o, ho, hex.1, hd⟩ hf hb hr hl fun s1 vs k1 hz1 g1 o1 pm => ?_)
  have hvl : vs.length = n := by rw [pm.length_eq, List.length_map, Array.length_toList]; exact hn
  have hI : IntsAre vs (vs.map Builtin.Re.reRawOf) := ints_of vs fun v hv => by
    obtain ⟨e, he, q⟩ := List.mem_map.mp (pm.mem_iff.mp hv)
    obtain ⟨k, tk, h1, _⟩ := g e he
    exact ⟨k, tk, by rw [← q]; exact h1⟩
  have pk : (vs.map Builtin.Re.reRawOf).Perm (es.toList.map keyOf) := by
    have q := pm.map Builtin.Re.reRawOf
    rw [List.map_map] at q
    exact q
  refine wpAny_bind (wpAny_newList ?_ (by rw [hvl]; exact hz))
  have hoL : (s1.heap.push (seqObj "list" vs.toArray 0)).get? s1.heap.objs.size = some (seqObj "list" vs.toArray 0) := Heap.get?_push_size _ rfl
  refine wpAny_bind (wpAny_holding (wpAny_call_entry slot_list_sort ⟨_, hoL, rfl⟩ entry_list_sort (SrtO.list_sort_ord SrtO.swo_int hoL (by rw [hvl]; exact hz) (fun h2 => SrtO.ints_sortable hI h2) fun out h1 h2 => ⟨_, rfl, ?_⟩) (args_list_sort _)))
  obtain ⟨q1, q2, q3⟩ := SrtO.ints_out hI h1 h2
  obtain ⟨c, hc⟩ := sortedHeap_at (vs := vs) (out := out.toArray) hoL
  have pn := q2.trans pk
  refine wpAny_pure ⟨_, rfl, hQ _ s1.heap.objs.size out.toArray c (out.map SrtO.iv) (fun b u e => ?_) g1 o1 hz1 hc q1 (lt_of_le_nodup _ q3 (pn.nodup_iff.mpr nd)) (fun k => by rw [pn.mem_iff, ← hm k]) ?_⟩
  · have q := k1 b u e
    have hlt := Heap.lt_size q
    show (sortedHeap (s1.heap.push (seqObj "list" vs.toArray 0)) s1.heap.objs.size vs out.toArray).get? b = some u
    rw [sortedHeap_old (Nat.ne_of_lt hlt) (by rw [size_push']; exact Nat.lt_succ_of_lt hlt)]
    exact Heap.get?_push_of_some _ q
  · rw [pn.length_eq, List.length_map, Array.length_toList]; exact hn
end
def rSortedSetO (w : World) : List V → Hp → VK → Prop := fun vs H Q => ∃ (a : Addr) (S : Int → Bool) (n : Nat), vs = [V.ref a] ∧ H a = some (SetO w a S n) ∧ n ≤ sizeLine ∧
  ∀ (ns : List Int) (p : Addr), ns.Pairwise (· < ·) → (∀ k : Int, k ∈ ns ↔ S k = true) → ns.length = n → H p = none → Q (.ref p) (upd H p (.lst (ns.map V.int)))
theorem cr_sortedSetO {X : Cx} (hc : X.calm = true) : CallR X (.builtin "sorted") (rSortedSetO X.w) := by
  intro pins s σ H vs us Q I r h
  obtain ⟨a, S, n, rfl, ha, hz, q⟩ := h
  have R := setO_get I ha
  rw [Vals.ref1 r]
  refine sorted_setO R (I.ok.hd hc) hz fun s' p out c ns k g o hp hg hi hs hm hl => ?_
  have hlen : (ns.map V.int).length ≤ sizeLine := by rw [List.length_map, hl]; exact hz
  have hn : H p = none := I.hok.fresh hp
  have J : Inv X pins σ (upd H p (.lst (ns.map V.int))) { s with heap := s'.heap, gens := s'.gens, drawn := s'.drawn, toks := s'.toks } :=
    I.call (ch := []) (Un.laid k hp hn) (I.hok.laid k hp ⟨hlen, out.toList, c, vals_of_ints hi, hg⟩) (by rw [g]; exact I.bare) (fun _ z => nomatch z)
  have e : s' = { s with heap := s'.heap, gens := s'.gens, drawn := s'.drawn, toks := s'.toks } := by
    cases s'
    cases s
    cases o
    rfl
  rw [e]
  exact ⟨.ref p, _, J, rfl, q ns p hs hm hl hn⟩
theorem n_sortI1O {K : PySem.W.Frag} {w : World} {xs : List Int} : UN (rSortedSetO w) (rI w xs) (xs.length < 4000) (tI (K := K)) (sortI1 xs) := fun F H v s ⟨a, S, m, e, h, hm, hl⟩ c Q k => by
  subst e
  have h4 : (4000 : Nat) ≤ sizeLine := by rw [sizeLine_eq]; omega
  refine ⟨a, S, m, rfl, h, by omega, fun ns p pw hmem hlen hp => ?_⟩
  have e : ns = sortI1 xs := sortI1_of pw fun x => by rw [hmem, hm]
  rw [e]
  refine k p _ hp rl_of_ints ?_
  rw [← e, List.length_map, hlen]; omega
/-! ### isinstance of a caught exception, with fields or without -/
section
variable {X : Cx} {ρ : List (Slot X.K)} {cs : List (Cell X.K)} {pos : Pos} {e : Expr}
theorem call_isXx {a : Addr} {oe : Obj} {pn : List (Addr × Obj)} {cls : Value} {d : Option Addr} {C : Addr} (ct : ExcC X.K C) (ox : OexC X.K C) (hz : Zc cls d oe) (hfo : ∃ vs, oe.data = .fields vs) :
    CallR (X.suite a ((a, oe) :: pn)) (.builtin "isinstance") (fun xs H Q => ∃ (c : V) (cv : Value) (b : Bool), xs = [.ref a, c] ∧ (∀ u, RelV c u → u = cv) ∧ PySem.W.kitOne X.K (.ref C) cv = some b ∧ cls = .ref C ∧ (d = none ∨ ∃ dd vs, d = some dd ∧ H dd = some (.xd vs)) ∧ Q (.bl b) H) := by
  intro pins s σ H xs us Q I r h
  obtain ⟨c, cv, b, e1, hcv, hk, e2, hd, q⟩ := h
  rcases hd with e3 | ⟨dd, vs, e3, hF⟩
  · subst e2 e3
    exact call_isE ct hz hfo pins s σ H xs us Q I r ⟨c, cv, b, e1, hcv, hk, q⟩
  · exact call_isX ct ox hz hfo pins s σ H xs us Q I r ⟨dd, c, cv, b, vs, e2, e3, e1, hcv, hk, hF, q⟩
theorem pk_exIsOx {xa : XA} {a : Addr} {oe : Obj} {pn : List (Addr × Obj)} {cls : Value} {d : Option Addr} {r : Rf} {C C2 : Addr} {b : Bool} {P P2 : Prop} {nm : Str} {p : Pos} {e2 : Expr} (ct : ExcC X.K C) (ox : OexC X.K C) (hz : Zc cls d oe) (hfo : ∃ vs, oe.data = .fields vs)
    (hm : X.mg nm = none) (hv : bootBuiltins nm = some (.builtin "isinstance")) (he : PK (X.suite a ((a, oe) :: pn)) e ρ cs (tEx xa a cls d) r P) (ha : PK (X.suite a ((a, oe) :: pn)) e2 ρ cs tR C2 P2) (hk : PySem.W.kitOne X.K (.ref C) (.ref C2) = some b) (hC : (exn (K := X.K) xa r).c = C := by rfl)
    (hg : Gl X nm := by rfl) (hn : nm ≠ "__name__" := by decide) (hdb : (nm == ("__debug__" : Str)) = false := by decide)
    (hst : starEach (e :: [e2]) X.env = (false, eval e X.env) :: starEach [e2] X.env := by rfl) (hst2 : starEach (e2 :: []) X.env = (false, eval e2 X.env) :: starEach [] X.env := by rfl) (hpl : (backTo pos (starEach [e2] X.env)).any (·.1) = false := by rfl) :
    PK (X.suite a ((a, oe) :: pn)) (.Call (.Name nm p) [e, e2] [] pos) ρ cs tB b (P ∧ P2) := fun F σ H ok q Q k => by
  refine we (pe_callB (call_isXx ct ox hz hfo) hg hm hv (pa_cons pe_w (pa_cons pe_w pa_nil hst2) hst) hn hdb hst hpl) ?_
  refine he F σ H ok q.1 _ fun v F1 H1 g1 rv => ?_
  obtain ⟨ev, ecl, hd⟩ := rv
  refine ha F1 σ H1 (ok.grow g1) q.2 _ fun w F2 H2 g2 r2 => ?_
  have ew : w = .ref C2 := r2
  refine ⟨.ref C2, .ref C2, b, by rw [ev, ew], fun u hu => hu, hk, by rw [ecl, hC], ?_, k _ _ _ (g1.trans g2) rfl⟩
  rcases hd with ⟨_, h0⟩ | ⟨dd, vs, ed, hF, hfl⟩
  · exact .inl h0
  · exact .inr ⟨dd, vs, ed, (g2.ff.trans g2.fh) _ _ hF⟩
theorem pk_exIsBx {xa : XA} {a : Addr} {oe : Obj} {pn : List (Addr × Obj)} {cls : Value} {d : Option Addr} {r : Rf} {C : Addr} {b : Bool} {P : Prop} {nm cn : Str} {c : String} {p p2 : Pos} (ct : ExcC X.K C) (ox : OexC X.K C) (hz : Zc cls d oe) (hfo : ∃ vs, oe.data = .fields vs)
    (hm : X.mg nm = none) (hv : bootBuiltins nm = some (.builtin "isinstance")) (hm2 : X.mg cn = none) (hv2 : bootBuiltins cn = some (.type c)) (he : PK (X.suite a ((a, oe) :: pn)) e ρ cs (tEx xa a cls d) r P) (hk : PySem.W.kitOne X.K (.ref C) (.type c) = some b) (hC : (exn (K := X.K) xa r).c = C := by rfl)
    (hg : Gl X nm := by rfl) (hg2 : Gl X cn := by rfl) (hn : nm ≠ "__name__" := by decide) (hdb : (nm == ("__debug__" : Str)) = false := by decide) (hn2 : cn ≠ "__name__" := by decide) (hdb2 : (cn == ("__debug__" : Str)) = false := by decide)
    (hst : starEach (e :: [.Name cn p2]) X.env = (false, eval e X.env) :: starEach [.Name cn p2] X.env := by rfl) (hst2 : starEach (.Name cn p2 :: []) X.env = (false, eval (.Name cn p2) X.env) :: starEach [] X.env := by rfl) (hpl : (backTo pos (starEach [.Name cn p2] X.env)).any (·.1) = false := by rfl) :
    PK (X.suite a ((a, oe) :: pn)) (.Call (.Name nm p) [e, .Name cn p2] [] pos) ρ cs tB b P := fun F σ H ok q Q k => by
  refine we (pe_callB (call_isXx ct ox hz hfo) hg hm hv (pa_cons pe_w (pa_cons (pe_bltn (v := .ty c) hg2 hm2 hv2 rfl hn2 hdb2) pa_nil hst2) hst) hn hdb hst hpl) ?_
  refine he F σ H ok q _ fun v F1 H1 g1 rv => ?_
  obtain ⟨ev, ecl, hd⟩ := rv
  refine ⟨.ty c, .type c, b, by rw [ev], fun u hu => hu, hk, by rw [ecl, hC], ?_, k _ _ _ g1 rfl⟩
  rcases hd with ⟨_, h0⟩ | ⟨dd, vs, ed, hF, hfl⟩
  · exact .inl h0
  · exact .inr ⟨dd, vs, ed, g1.fh _ _ hF⟩
end
/-! ### f(own, ..) of a def within which repr may be asked -/
section
variable {X : Cx} {Y : Ec X.K} {ρ : List (Slot X.K)} {cs : List (Cell X.K)} {α γ δ μ : Type} {pos p : Pos} {e : Expr} {es : List Expr} {k : Nat} {f : Addr} {fd : FuncData} {ps : List Str} {nm : Str}
theorem ek_o1G {T0 : Ty X.K δ} {ins : α → List (Slot X.K)} {T : Ty X.K γ} {pre : List δ → α → Prop} {post : List δ → α → γ → List δ → Prop} {Ts : Tys X.K α} {vl : μ → α} {cs1 : μ → List (Cell X.K)} {M : (μ → Prop) → Prop} {l : Addr} {c : μ → List δ} (j : Nat)
    (F : CalG X.prog X.w X.K X.mg X.base nm k ps (Con.o1 T0 ins T pre post).sp f fd) (hs : Sl Ts ins) (hr : Room k X.A) (hgd : X.A.guards = some [])
    (hl : PK X e ρ cs tR l True) (ha : AK X Y es ρ cs Ts vl cs1 M) (hc : ∀ y, (cs1 y)[j]? = some ⟨l, cL T0 (c y)⟩) (hg : Gl X nm := by rfl) (hdb : (nm == ("__debug__" : Str)) = false := by decide) (he : starEach (e :: es) X.env = (false, eval e X.env) :: starEach es X.env := by rfl) (hpl : (backTo pos (starEach es X.env)).any (·.1) = false := by rfl) :
    EK X Y (.Call (.Name nm p) (e :: es) [] pos) ρ cs T (fun y : μ × γ × List δ => y.2.1) (fun y => (cs1 y.1).set j ⟨l, cL T0 y.2.2⟩) (fun φ => M fun y => pre (c y) (vl y) ∧ ∀ r w, post (c y) (vl y) r w → φ (y, r, w)) := fun F0 σ H ok xh φ q Q kk => by
  refine we (pe_callG F hr hgd (E := E0) passL (pa_cons pe_w pa_w he) hg hdb he hpl) ?_
  refine hl F0 σ H ok.w trivial _ fun v F1 H1 g1 ev => ?_
  have m0 := ok.grow g1
  refine ha F1 σ H1 (ok.mv m0) (xh.mv m0) _ q _ fun y vs F2 H2 m2 r2 q2 => ?_
  have ok2 := (ok.mv m0).mv m2
  have hv : v = .ref l := ev
  subst hv
  refine ⟨(l, c y, vl y), F2, ?_, m2.fh, fun c0 h0 => ?_, by simp [Con.o1], q2.1, fun r w hp v F3 H3 m3 rr => ?_⟩
  · rw [List.append_nil]
    exact .cons ⟨_, rfl, rfl⟩ (hs F2 vs (vl y) r2)
  · have : c0 = ⟨l, cL T0 (c y)⟩ := by simpa [Con.o1] using h0
    subst this
    exact ok2.cell _ (List.mem_of_getElem? (hc y))
  · have m4 := mv_one (c' := ⟨l, cL T0 w⟩) (more := []) ok2 (hc y) rfl m3
    rw [List.append_nil] at m4
    exact kk (y, r, w) v F3 H3 ((m0.trans m2).trans m4) rr (q2.2 r w hp)
end
/-! ### a and b, both of which write the same owned list -/
section
variable {X : Cx} {Y : Ec X.K} {ρ : List (Slot X.K)} {cs : List (Cell X.K)} {δ μ ν : Type} {pos : Pos} {a b : Expr} {more : List Expr}
theorem tw_andC {T0 : Ty X.K δ} {l : Addr} {c1 : μ → List δ} {c2 : μ → ν → List δ} {vl : μ → Bool} {vl2 : μ → ν → Bool} {M : (μ → Prop) → Prop} {M2 : μ → (ν → Prop) → Prop} (j : Nat)
    (ha : TK X Y a ρ cs vl (fun y => cs.set j ⟨l, cL T0 (c1 y)⟩) M) (hb : ∀ y, TWK X Y (.BoolOp .And (b :: more) pos) ρ (cs.set j ⟨l, cL T0 (c1 y)⟩) (vl2 y) (fun u => (cs.set j ⟨l, cL T0 (c1 y)⟩).set j ⟨l, cL T0 (c2 y u)⟩) (M2 y)) :
    TWK X Y (.BoolOp .And (a :: b :: more) pos) ρ cs (fun y : μ × Option ν => match y.2 with | none => false | some u => vl2 y.1 u) (fun y => cs.set j ⟨l, cL T0 (match y.2 with | none => c1 y.1 | some u => c2 y.1 u)⟩) (fun φ => M fun y => (vl y = false → φ (y, none)) ∧ (vl y = true → M2 y fun u => φ (y, some u))) := fun F σ H ok xh φ p Q k => by
  refine ww (L2.pw_and pt_w pw_w) ?_
  refine ha F σ H ok xh _ p _ fun y F1 H1 m1 q1 => ?_
  cases hv : vl y with
  | true => exact (if_pos rfl).mpr (hb y F1 σ H1 (ok.mv m1) (xh.mv m1) _ (q1.2 hv) Q fun u F2 H2 m2 q2 => k (y, some u) F2 H2 (by have m3 := m2; dsimp only at m3; rw [List.set_set] at m3; exact m1.trans m3) q2)
  | false => exact (if_neg Bool.false_ne_true).mpr (k (y, none) F1 H1 m1 (q1.1 hv))
end
end MD
/-! a least form is there for each table; two machines side by side; three of them -/
namespace KQ
open PySem PyProof.Rows L2 MD KP KM KN
section
variable {m : Nat} {tab : Tab} {good : List Int}
theorem al_trans {s t u : Int} (h : Al m tab good s t) (h' : Al m tab good t u) : Al m tab good s u := fun w hw => ((h.ek w.length).trans (h'.ek w.length)) w hw (Nat.le_refl _)
open Classical in
noncomputable def eps (m : Nat) (tab : Tab) (good : List Int) (s : Int) : Int := Classical.epsilon fun t => Al m tab good s t
theorem eps_al (s : Int) : Al m tab good s (eps m tab good s) := Classical.epsilon_spec (p := fun t => Al m tab good s t) ⟨s, Al.refl s⟩
theorem eps_iff {s t : Int} : eps m tab good s = eps m tab good t ↔ Al m tab good s t := by
  constructor
  · intro e
    have h1 := eps_al (m := m) (tab := tab) (good := good) s
    have h2 := eps_al (m := m) (tab := tab) (good := good) t
    rw [e] at h1
    exact al_trans h1 h2.symm
  · intro h
    unfold eps
    congr 1
    funext u
    exact propext ⟨fun q => al_trans h.symm q, fun q => al_trans h q⟩
theorem colA_ex : ∃ cs, ColA m tab good cs := by
  refine ⟨(rng 0 (tab.length : Int)).map (eps m tab good), by rw [List.length_map, rng_len], fun s t hs ht => ?_⟩
  rw [pyIx_map _ hs.1 (by rw [rng_len]; exact hs.2), pyIx_map _ ht.1 (by rw [rng_len]; exact ht.2), rng_ix hs.1 hs.2, rng_ix ht.1 ht.2]
  exact eps_iff
theorem lr_all {cs sts : List Int} {nt : Tab} {s : Int} (hT : TOk m tab) (hs : InR tab s) (h : LR tab cs sts nt s 0 []) : ∀ j, j ≤ (pyIx tab s).length → ∃ sts' steps, LR tab cs sts' nt s j steps
  | 0, _ => ⟨sts, [], h⟩
  | j + 1, hj => by
    obtain ⟨sts', steps, h'⟩ := lr_all hT hs h j (by omega)
    have hg : (pyIx tab s)[j]? = some (pyIx tab s)[j] := List.getElem?_eq_getElem (by omega)
    generalize (pyIx tab s)[j] = g at hg
    have hi : InR tab g := hT.goal _ (pyIx_mem hs.1 hs.2) g (List.mem_of_getElem? hg)
    by_cases hm : pyIx cs g ∈ sts'.map (pyIx cs)
    · exact ⟨_, _, h'.old hg hm⟩
    · exact ⟨_, _, h'.new hg hi hm⟩
theorem lf_all {cs : List Int} (hT : TOk m tab) : ∀ (n : Nat) (sts : List Int) (nt : Tab), LF tab cs sts nt → tab.length + 1 - nt.length ≤ n → ∃ sts' nt', LF tab cs sts' nt' ∧ sts'.length ≤ nt'.length
  | 0, sts, nt, h, hn => by
    have := h.le
    have := h.few
    omega
  | n + 1, sts, nt, h, hn => by
    by_cases c : sts.length ≤ nt.length
    · exact ⟨sts, nt, h, c⟩
    · have hs : sts[nt.length]? = some sts[nt.length] := List.getElem?_eq_getElem (by omega)
      generalize sts[nt.length] = s at hs
      obtain ⟨sts', steps, h'⟩ := lr_all hT (h.inr s (List.mem_of_getElem? hs)) (h.begin hs) _ (Nat.le_refl _)
      refine lf_all hT n sts' (nt ++ [steps]) (h'.done (Nat.le_refl _)) ?_
      rw [List.length_append]
      show tab.length + 1 - (nt.length + 1) ≤ n
      omega
theorem least_ex (hT : TOk m tab) (h0 : InR tab 0) : ∃ nt ng, IsM m nt ng ∧ Same m tab good nt ng ∧ nt.length ≤ tab.length := by
  obtain ⟨cs, hC⟩ := colA_ex (m := m) (tab := tab) (good := good)
  obtain ⟨sts, nt, h, hl⟩ := lf_all (cs := cs) hT _ _ _ (LF.start h0) (Nat.le_refl _)
  obtain ⟨h1, h2⟩ := h.done hT hC hl
  exact ⟨nt, _, h1, h2, Nat.le_trans h.le h.few⟩
end
/-! ### the least form of what lets by some words -/
structure LsOk (ls : List Str) : Prop where
  ne : ls ≠ []
  l7 : ls.length ≤ 7
  nd : ls.Nodup
  w : ∀ s ∈ ls, Word s
theorem lsOk {ls : List Str} {tab : Tab} (h : TabOk ls tab) : LsOk ls := ⟨h.lne, h.l6, h.nd, h.w⟩
def accM (x : Ma) (w : List Nat) : Prop := runT x.2.1 0 w ∈ x.2.2
structure FormOk (ls : List Str) (L : List Nat → Prop) (r : Ma) : Prop where
  lt : r.1 = ls
  ok : MaOk r
  ism : IsM ls.length r.2.1 r.2.2
  acc : ∀ w, Wd ls.length w → (accM r w ↔ L w)
theorem FormOk.uniq {ls : List Str} {L L' : List Nat → Prop} {r r' : Ma} (h : FormOk ls L r) (h' : FormOk ls L' r') (e : ∀ w, Wd ls.length w → (L w ↔ L' w)) : r = r' := by
  obtain ⟨e1, e2⟩ := h.ism.uniq h'.ism fun w hw => (h.acc w hw).trans ((e w hw).trans (h'.acc w hw).symm)
  have e0 := h.lt.trans h'.lt.symm
  obtain ⟨a, b, c⟩ := r
  obtain ⟨a', b', c'⟩ := r'
  dsimp only at e0 e1 e2
  rw [e0, e1, e2]
theorem form_of {ls : List Str} {L : List Nat → Prop} {tab : Tab} {good : List Int} (h : LsOk ls) (hT : TOk ls.length tab) (h0 : InR tab 0) (few : tab.length ≤ 64) (hL : ∀ w, Wd ls.length w → (runT tab 0 w ∈ good ↔ L w)) : ∃ r, FormOk ls L r := by
  obtain ⟨nt, ng, h1, h2, h3⟩ := least_ex (good := good) hT h0
  have n0 := h1.ne
  refine ⟨(ls, nt, ng), rfl, ⟨⟨fun (e : nt = []) => ?_, Nat.le_trans h3 few, h.ne, h.l7, h.nd, h.w, h1.ok.len, h1.ok.goal⟩, h1.good⟩, h1, fun w hw => (h2 w hw).symm.trans (hL w hw)⟩
  rw [e] at n0
  exact absurd n0.2 (by decide)
open Classical in
noncomputable def formL (ls : List Str) (L : List Nat → Prop) : Ma := if h : ∃ r, FormOk ls L r then choose h else default
theorem formL_ok {ls : List Str} {L : List Nat → Prop} (h : ∃ r, FormOk ls L r) : FormOk ls L (formL ls L) := by
  unfold formL
  rw [dif_pos h]
  exact Classical.choose_spec h
theorem formL_eq {ls : List Str} {L : List Nat → Prop} {r : Ma} (h : FormOk ls L r) : formL ls L = r := (formL_ok ⟨r, h⟩).uniq h fun _ _ => Iff.rfl
/-! ### the table of all pairs -/
section
variable {m : Nat} {t1 t2 : Tab}
def enc (t2 : Tab) (p : Int × Int) : Int := p.1 * (t2.length : Int) + p.2
def pT (m : Nat) (t1 t2 : Tab) : Tab := (rng 0 ((t1.length * t2.length : Nat) : Int)).map fun s => (rng 0 (m : Int)).map fun j => enc t2 (stp t1 (s / (t2.length : Int)) j.toNat, stp t2 (s % (t2.length : Int)) j.toNat)
theorem pT_len : (pT m t1 t2).length = t1.length * t2.length := by unfold pT; rw [List.length_map, rng_len]
theorem enc_in {p : Int × Int} (h1 : InR t1 p.1) (h2 : InR t2 p.2) : InR (pT m t1 t2) (enc t2 p) := by
  obtain ⟨a, b⟩ := p
  obtain ⟨a0, a1⟩ := h1
  obtain ⟨b0, b1⟩ := h2
  dsimp only at a0 a1 b0 b1
  unfold enc InR
  rw [pT_len]
  obtain ⟨x, rfl⟩ := Int.eq_ofNat_of_zero_le a0
  obtain ⟨y, rfl⟩ := Int.eq_ofNat_of_zero_le b0
  have hx : x + 1 ≤ t1.length := by omega
  have hm := Nat.mul_le_mul_right t2.length hx
  rw [Nat.succ_mul] at hm
  constructor
  · exact Int.add_nonneg (Int.mul_nonneg a0 (by omega)) b0
  · show (x : Int) * (t2.length : Int) + (y : Int) < ((t1.length * t2.length : Nat) : Int)
    rw [← Int.natCast_mul, ← Int.natCast_add]
    omega
theorem enc_div {p : Int × Int} (h2 : InR t2 p.2) : enc t2 p / (t2.length : Int) = p.1 ∧ enc t2 p % (t2.length : Int) = p.2 := by
  obtain ⟨b0, b1⟩ := h2
  unfold enc
  rw [Int.add_comm]
  constructor
  · rw [Int.add_mul_ediv_right _ _ (by omega), Int.ediv_eq_zero_of_lt b0 b1, Int.zero_add]
  · rw [Int.add_mul_emod_self_right, Int.emod_eq_of_lt b0 b1]
theorem rng_toNat {m : Nat} {j : Nat} (hj : j < m) : pyIx (rng 0 (m : Int)) (j : Int) = (j : Int) := rng_ix (by omega) (by omega)
theorem pT_row {s : Int} (hs : InR (pT m t1 t2) s) : pyIx (pT m t1 t2) s = (rng 0 (m : Int)).map fun j => enc t2 (stp t1 (s / (t2.length : Int)) j.toNat, stp t2 (s % (t2.length : Int)) j.toNat) := by
  have hl := hs.2
  rw [pT_len] at hl
  unfold pT
  rw [pyIx_map _ hs.1 (by rw [rng_len]; exact hl), rng_ix hs.1 hl]
theorem pT_stp {p : Int × Int} (h1 : InR t1 p.1) (h2 : InR t2 p.2) {j : Nat} (hj : j < m) : stp (pT m t1 t2) (enc t2 p) j = enc t2 (stp t1 p.1 j, stp t2 p.2 j) := by
  unfold stp
  rw [pT_row (enc_in h1 h2), pyIx_map _ (by omega) (by rw [rng_len]; omega), rng_toNat hj, (enc_div h2).1, (enc_div h2).2]
  rfl
theorem pT_ok (h1 : TOk m t1) (h2 : TOk m t2) : TOk m (pT m t1 t2) := by
  refine ⟨fun r hr => ?_, fun r hr g hg => ?_⟩
  · unfold pT at hr
    obtain ⟨s, hs, rfl⟩ := List.mem_map.mp hr
    rw [List.length_map, rng_len]
  · have hr' := hr
    unfold pT at hr
    obtain ⟨s, hs, rfl⟩ := List.mem_map.mp hr
    obtain ⟨j, hj, rfl⟩ := List.mem_map.mp hg
    have hsr := KN.rng_mem hs
    have hjr := KN.rng_mem hj
    have l2 : 0 < t2.length := by
      rcases Nat.eq_zero_or_pos t2.length with c | c
      · rw [c, Nat.mul_zero] at hsr; omega
      · exact c
    refine enc_in (stp_in h1 ⟨Int.ediv_nonneg hsr.1 (by omega), ?_⟩ (by omega)) (stp_in h2 ⟨Int.emod_nonneg _ (by omega), Int.emod_lt_of_pos _ (by omega)⟩ (by omega))
    refine Int.ediv_lt_of_lt_mul (by omega) ?_
    have := hsr.2
    rw [Int.natCast_mul] at this
    exact this
theorem pT_run (h1 : TOk m t1) (h2 : TOk m t2) : ∀ {w : List Nat} {p : Int × Int}, InR t1 p.1 → InR t2 p.2 → Wd m w → runT (pT m t1 t2) (enc t2 p) w = enc t2 (runT t1 p.1 w, runT t2 p.2 w)
  | [], _, _, _, _ => rfl
  | j :: w, p, i1, i2, hw => by
    have hj := hw j List.mem_cons_self
    show runT _ (stp _ _ j) w = _
    rw [pT_stp i1 i2 hj, pT_run h1 h2 (p := (stp t1 p.1 j, stp t2 p.2 j)) (stp_in h1 i1 hj) (stp_in h2 i2 hj) fun k hk => hw k (List.mem_cons_of_mem _ hk)]
    rfl
end
open Classical in
/-- the least form of what two machines let by, put together in any way -/
theorem two_ex {one other : Ma} (h1 : MaOk one) (h2 : MaOk other) (e : one.1 = other.1) (hs : one.2.1.length * other.2.1.length ≤ 64) (f : Prop → Prop → Prop) : ∃ r, FormOk one.1 (fun w => f (accM one w) (accM other w)) r := by
  have T1 := tok_of h1.1
  have T2 := tok_of h2.1
  rw [← e] at T2
  have p1 : 0 < one.2.1.length := List.length_pos_iff.mpr h1.1.ne
  have p2 : 0 < other.2.1.length := List.length_pos_iff.mpr h2.1.ne
  have z1 : InR one.2.1 0 := ⟨Int.le_refl 0, by omega⟩
  have z2 : InR other.2.1 0 := ⟨Int.le_refl 0, by omega⟩
  have ez : enc other.2.1 (0, 0) = 0 := by unfold enc; simp
  refine form_of (tab := pT one.1.length one.2.1 other.2.1) (good := (rng 0 ((one.2.1.length * other.2.1.length : Nat) : Int)).filter fun s => decide (f (s / (other.2.1.length : Int) ∈ one.2.2) (s % (other.2.1.length : Int) ∈ other.2.2))) (lsOk h1.1) (pT_ok T1 T2) (by rw [← ez]; exact enc_in z1 z2) (by rw [pT_len]; exact hs) fun w hw => ?_
  have hr := pT_run T1 T2 (w := w) (p := (0, 0)) z1 z2 hw
  rw [ez] at hr
  have i1 := run_in T1 z1 hw
  have i2 := run_in T2 z2 hw
  have hi := enc_in (m := one.1.length) (p := (runT one.2.1 0 w, runT other.2.1 0 w)) i1 i2
  have hd := enc_div (p := (runT one.2.1 0 w, runT other.2.1 0 w)) i2
  rw [hr, List.mem_filter, decide_eq_true_iff, hd.1, hd.2]
  have hl := hi.2
  rw [pT_len] at hl
  exact ⟨fun q => q.2, fun q => ⟨KN.rng_memI hi.1 hl, q⟩⟩
/-! ### side by side, breadth first -/
def ixG {κ : Type} [DecidableEq κ] (l : List κ) (q : κ) : Nat := l.idxOf q
theorem ixG_lt {κ : Type} [DecidableEq κ] {l : List κ} {q : κ} (h : q ∈ l) : ixG l q < l.length := List.idxOf_lt_length_iff.mpr h
theorem ixG_get {κ : Type} [DecidableEq κ] {l : List κ} {q : κ} (h : q ∈ l) : l[ixG l q]? = some q := by
  have hi := ixG_lt h
  rw [List.getElem?_eq_getElem hi]
  exact congrArg some (List.getElem_idxOf hi)
theorem ixG_app {κ : Type} [DecidableEq κ] {l : List κ} {g x : κ} (h : x ∈ l) : ixG (l ++ [g]) x = ixG l x := by
  unfold ixG
  rw [List.idxOf_append, if_pos h]
def ixP (prs : List (Int × Int)) (q : Int × Int) : Int := ((ixG prs q : Nat) : Int)
theorem ixP_app {prs : List (Int × Int)} {g x : Int × Int} (h : x ∈ prs) : ixP (prs ++ [g]) x = ixP prs x := congrArg Int.ofNat (ixG_app h)
theorem ixP_lt {prs : List (Int × Int)} {g : Int × Int} (h : g ∈ prs) : 0 ≤ ixP prs g ∧ ixP prs g < (prs.length : Int) := by
  have := ixG_lt h
  unfold ixP
  omega
theorem ixP_at {prs : List (Int × Int)} {g : Int × Int} (h : g ∈ prs) : pyIx prs (ixP prs g) = g := pyIx_get (ixG_get h)
theorem dget_ixP {prs : List (Int × Int)} {g : Int × Int} (h : g ∈ prs) : (dget (KM.prs 0 prs) g).getD default = ixP prs g := by
  rw [dget_prs 0 h, Nat.zero_add]
  rfl
/-- the pairs that follow one -/
def nxt (t1 t2 : Tab) (p : Int × Int) : List (Int × Int) := (pyIx t1 p.1).zip (pyIx t2 p.2)
structure SB (t1 t2 : Tab) (prs : List (Int × Int)) (nt : Tab) : Prop where
  hd : prs[0]? = some (0, 0)
  inr : ∀ p ∈ prs, InR t1 p.1 ∧ InR t2 p.2
  nd : prs.Nodup
  le : nt.length ≤ prs.length
  row : ∀ (a : Nat) (r : List Int), nt[a]? = some r → ∃ p, prs[a]? = some p ∧ r = (nxt t1 t2 p).map (ixP prs) ∧ ∀ q ∈ nxt t1 t2 p, q ∈ prs
structure SR (t1 t2 : Tab) (prs : List (Int × Int)) (nt : Tab) (p : Int × Int) (j : Nat) (steps : List Int) : Prop where
  hd : prs[0]? = some (0, 0)
  inr : ∀ p ∈ prs, InR t1 p.1 ∧ InR t2 p.2
  nd : prs.Nodup
  row : ∀ (a : Nat) (r : List Int), nt[a]? = some r → ∃ p, prs[a]? = some p ∧ r = (nxt t1 t2 p).map (ixP prs) ∧ ∀ q ∈ nxt t1 t2 p, q ∈ prs
  st : prs[nt.length]? = some p
  steps : steps = ((nxt t1 t2 p).take j).map (ixP prs)
  mem : ∀ q ∈ (nxt t1 t2 p).take j, q ∈ prs
section
variable {m : Nat} {t1 t2 : Tab} {prs : List (Int × Int)} {nt : Tab} {p q : Int × Int} {j : Nat} {steps : List Int}
theorem SB.start (h1 : InR t1 0) (h2 : InR t2 0) : SB t1 t2 [(0, 0)] [] where
  hd := rfl
  inr := fun s hs => by rw [List.mem_singleton.mp hs]; exact ⟨h1, h2⟩
  nd := by simp
  le := Nat.zero_le _
  row := fun a r e => by simp at e
theorem SB.begin (h : SB t1 t2 prs nt) (hs : prs[nt.length]? = some p) : SR t1 t2 prs nt p 0 [] := ⟨h.hd, h.inr, h.nd, h.row, hs, by rw [List.take_zero]; rfl, fun g hg => by rw [List.take_zero] at hg; cases hg⟩
theorem SR.old (h : SR t1 t2 prs nt p j steps) (hg : (nxt t1 t2 p)[j]? = some q) (hm : q ∈ prs) : SR t1 t2 prs nt p (j + 1) (steps ++ [ixP prs q]) where
  hd := h.hd
  inr := h.inr
  nd := h.nd
  row := h.row
  st := h.st
  steps := by rw [take_step hg, List.map_append, h.steps]; rfl
  mem := fun x hx => by
    rw [take_step hg] at hx
    rcases List.mem_append.mp hx with c | c
    · exact h.mem x c
    · rw [List.mem_singleton.mp c]; exact hm
theorem SR.new (h : SR t1 t2 prs nt p j steps) (hg : (nxt t1 t2 p)[j]? = some q) (hi : InR t1 q.1 ∧ InR t2 q.2) (hm : q ∉ prs) : SR t1 t2 (prs ++ [q]) nt p (j + 1) (steps ++ [ixP (prs ++ [q]) q]) where
  hd := by
    rw [List.getElem?_append_left (List.getElem?_eq_some_iff.mp h.hd).1]
    exact h.hd
  inr := fun x hx => by
    rcases List.mem_append.mp hx with c | c
    · exact h.inr x c
    · rw [List.mem_singleton.mp c]; exact hi
  nd := List.nodup_append.mpr ⟨h.nd, by simp, fun a ha b hb e => hm (by
    have : b = q := by simpa using hb
    rw [← this, ← e]
    exact ha)⟩
  row := fun a r e => by
    obtain ⟨x, x1, x2, x3⟩ := h.row a r e
    refine ⟨x, ?_, ?_, fun y hy => List.mem_append_left _ (x3 y hy)⟩
    · rw [List.getElem?_append_left (List.getElem?_eq_some_iff.mp x1).1]
      exact x1
    · rw [x2]
      exact List.map_congr_left fun y hy => (ixP_app (x3 y hy)).symm
  st := by
    rw [List.getElem?_append_left (List.getElem?_eq_some_iff.mp h.st).1]
    exact h.st
  steps := by
    rw [take_step hg, List.map_append, h.steps]
    congr 1
    exact List.map_congr_left fun y hy => (ixP_app (h.mem y hy)).symm
  mem := fun x hx => by
    rw [take_step hg] at hx
    rcases List.mem_append.mp hx with c | c
    · exact List.mem_append_left _ (h.mem x c)
    · rw [List.mem_singleton.mp c]
      exact List.mem_append_right _ (List.mem_singleton.mpr rfl)
theorem SR.done (h : SR t1 t2 prs nt p j steps) (hj : (nxt t1 t2 p).length ≤ j) : SB t1 t2 prs (nt ++ [steps]) where
  hd := h.hd
  inr := h.inr
  nd := h.nd
  le := by
    have := (List.getElem?_eq_some_iff.mp h.st).1
    rw [List.length_append]
    exact this
  row := fun a r e => by
    rcases Nat.lt_or_ge a nt.length with k | k
    · rw [List.getElem?_append_left k] at e
      exact h.row a r e
    · rw [List.getElem?_append_right k] at e
      have : a - nt.length = 0 := by
        have := (List.getElem?_eq_some_iff.mp e).1
        simp at this
        omega
      rw [this] at e
      have e : steps = r := by simpa using e
      have : a = nt.length := by omega
      subst this
      refine ⟨p, h.st, ?_, fun g hg => h.mem g (by rw [List.take_of_length_le hj]; exact hg)⟩
      rw [← e, h.steps, List.take_of_length_le hj]
theorem prs_few (hn : prs.Nodup) (h : ∀ p ∈ prs, InR t1 p.1 ∧ InR t2 p.2) : prs.length ≤ t1.length * t2.length := by
  have := nodup_sub_len (ys := (rng 0 (t1.length : Int)).flatMap fun x => (rng 0 (t2.length : Int)).map fun y => (x, y)) hn fun p hp => by
    obtain ⟨a, b⟩ := h p hp
    exact List.mem_flatMap.mpr ⟨p.1, KN.rng_memI a.1 a.2, List.mem_map.mpr ⟨p.2, KN.rng_memI b.1 b.2, rfl⟩⟩
  rw [List.length_flatMap] at this
  simp only [List.length_map, rng_len] at this
  rw [List.map_const', List.sum_replicate_nat, rng_len] at this
  exact this
theorem nxt_at (h1 : TOk m t1) (h2 : TOk m t2) (i1 : InR t1 p.1) (i2 : InR t2 p.2) {j : Nat} {q : Int × Int} (hq : (nxt t1 t2 p)[j]? = some q) : j < m ∧ q = (stp t1 p.1 j, stp t2 p.2 j) := by
  unfold nxt at hq
  obtain ⟨q1, q2⟩ := List.getElem?_zip_eq_some.mp hq
  have hj : j < m := by
    have := (List.getElem?_eq_some_iff.mp q1).1
    rw [h1.len _ (pyIx_mem i1.1 i1.2)] at this
    exact this
  rw [row_get h1 i1 hj] at q1
  rw [row_get h2 i2 hj] at q2
  exact ⟨hj, Prod.ext (Option.some.inj q1).symm (Option.some.inj q2).symm⟩
theorem nxt_len (h1 : TOk m t1) (h2 : TOk m t2) (i1 : InR t1 p.1) (i2 : InR t2 p.2) : (nxt t1 t2 p).length = m := by
  unfold nxt
  rw [List.length_zip, h1.len _ (pyIx_mem i1.1 i1.2), h2.len _ (pyIx_mem i2.1 i2.2), Nat.min_self]
theorem nxt_in (h1 : TOk m t1) (h2 : TOk m t2) (i1 : InR t1 p.1) (i2 : InR t2 p.2) {j : Nat} {q : Int × Int} (hq : (nxt t1 t2 p)[j]? = some q) : InR t1 q.1 ∧ InR t2 q.2 := by
  obtain ⟨hj, e⟩ := nxt_at h1 h2 i1 i2 hq
  rw [e]
  exact ⟨stp_in h1 i1 hj, stp_in h2 i2 hj⟩
/-- the table of the pairs that are come to -/
theorem SB.done (h1 : TOk m t1) (h2 : TOk m t2) (h : SB t1 t2 prs nt) (hl : prs.length ≤ nt.length) : TOk m nt ∧ InR nt 0 ∧ nt.length = prs.length ∧ ∀ w, Wd m w → pyIx prs (runT nt 0 w) = (runT t1 0 w, runT t2 0 w) := by
  have hlen : nt.length = prs.length := Nat.le_antisymm h.le hl
  have hp0 := (List.getElem?_eq_some_iff.mp h.hd).1
  have ok : TOk m nt := ⟨fun r hr => by
    obtain ⟨a, ha, e⟩ := List.getElem_of_mem hr
    obtain ⟨s, s1, s2, s3⟩ := h.row a r (by rw [List.getElem?_eq_getElem ha, e])
    have hs := h.inr s (List.mem_of_getElem? s1)
    rw [s2, List.length_map]
    exact nxt_len h1 h2 hs.1 hs.2, fun r hr g hg => by
    obtain ⟨a, ha, e⟩ := List.getElem_of_mem hr
    obtain ⟨s, s1, s2, s3⟩ := h.row a r (by rw [List.getElem?_eq_getElem ha, e])
    rw [s2] at hg
    obtain ⟨x, hx, rfl⟩ := List.mem_map.mp hg
    have := ixP_lt (s3 x hx)
    exact ⟨this.1, by rw [hlen]; exact this.2⟩⟩
  have n0 : InR nt 0 := ⟨Int.le_refl 0, by omega⟩
  refine ⟨ok, n0, hlen, fun w hw => ?_⟩
  have go : ∀ w, Wd m w → ∀ a p, InR nt a → pyIx prs a = p → InR t1 p.1 → InR t2 p.2 → pyIx prs (runT nt a w) = (runT t1 p.1 w, runT t2 p.2 w) := fun w => by
    induction w with
    | nil => exact fun _ a p _ e _ _ => e
    | cons j w ih =>
      intro hw a p ha e i1 i2
      have hj := hw j List.mem_cons_self
      refine ih (fun k hk => hw k (List.mem_cons_of_mem _ hk)) (stp nt a j) (stp t1 p.1 j, stp t2 p.2 j) (stp_in ok ha hj) ?_ (stp_in h1 i1 hj) (stp_in h2 i2 hj)
      obtain ⟨r, r1, r2⟩ := pyIx_nat ha.1 ha.2
      obtain ⟨s, s1, s2, s3⟩ := h.row _ _ r2
      have es : s = p := by
        have := pyIx_get s1
        rw [show ((a.toNat : Nat) : Int) = a by have := ha.1; omega, e] at this
        exact this.symm
      subst es
      have hjl : j < (nxt t1 t2 s).length := by rw [nxt_len h1 h2 i1 i2]; exact hj
      obtain ⟨x, hx⟩ : ∃ x, (nxt t1 t2 s)[j]? = some x := ⟨_, List.getElem?_eq_getElem hjl⟩
      have hm := s3 x (List.mem_of_getElem? hx)
      have e2 : stp nt a j = ixP prs x := by
        unfold stp
        rw [r1, s2]
        exact pyIx_get (by rw [List.getElem?_map, hx]; rfl)
      rw [e2, ixP_at hm]
      exact (nxt_at h1 h2 i1 i2 hx).2
  refine go w hw 0 (0, 0) n0 ?_ (h.inr _ (List.mem_of_getElem? h.hd)).1 (h.inr _ (List.mem_of_getElem? h.hd)).2
  exact pyIx_get (i := 0) h.hd
end
/-! ### good ones of the pairs -/
def gdP (f : Bool → Bool → Bool) (g1 g2 : List Int) (prs : List (Int × Int)) : List Int := (rng 0 (prs.length : Int)).filter fun k => f (decide ((pyIx prs k).1 ∈ g1)) (decide ((pyIx prs k).2 ∈ g2))
section
variable {m : Nat} {t1 t2 : Tab} {prs : List (Int × Int)} {nt : Tab}
theorem gdP_acc {f : Bool → Bool → Bool} {g1 g2 : List Int} (h1 : TOk m t1) (h2 : TOk m t2) (h : SB t1 t2 prs nt) (hl : prs.length ≤ nt.length) {w : List Nat} (hw : Wd m w) : runT nt 0 w ∈ gdP f g1 g2 prs ↔ f (decide (runT t1 0 w ∈ g1)) (decide (runT t2 0 w ∈ g2)) = true := by
  obtain ⟨a, b, c, d⟩ := h.done h1 h2 hl
  have hi := run_in a b hw
  have hd := d w hw
  unfold gdP
  rw [List.mem_filter, hd]
  refine ⟨fun q => q.2, fun q => ⟨KN.rng_memI hi.1 ?_, q⟩⟩
  rw [← c]
  exact hi.2
theorem gdP_good {f : Bool → Bool → Bool} {g1 g2 : List Int} (hl : nt.length = prs.length) : GoodOk nt (gdP f g1 g2 prs) := good_of ((rng_pw _).filter _) fun g hg => by
  rw [hl]
  exact KN.rng_mem (List.mem_filter.mp hg).1
end
/-! ### three side by side -/
def Led3 (m : Nat) (t1 t2 t3 : Tab) (p : Int × Int × Int) : Prop := ∃ w, Wd m w ∧ p = (runT t1 0 w, runT t2 0 w, runT t3 0 w)
structure Gone3 (m : Nat) (t1 t2 t3 : Tab) (left : List (Int × Int × Int)) (come : List ((Int × Int × Int) × Bool)) : Prop where
  left : ∀ p ∈ left, Led3 m t1 t2 t3 p
  nd : (come.map (·.1)).Nodup
  inr : ∀ p ∈ come.map (·.1), InR t1 p.1 ∧ InR t2 p.2.1 ∧ InR t3 p.2.2
section
variable {m : Nat} {t1 t2 t3 : Tab} {left : List (Int × Int × Int)} {come : List ((Int × Int × Int) × Bool)} {p q : Int × Int × Int}
theorem Gone3.start (h1 : InR t1 0) (h2 : InR t2 0) (h3 : InR t3 0) : Gone3 m t1 t2 t3 [(0, 0, 0)] [((0, 0, 0), true)] where
  left := fun p hp => by rw [List.mem_singleton.mp hp]; exact ⟨[], fun _ hx => (by cases hx), rfl⟩
  nd := by simp
  inr := fun p hp => by
    have hp : p ∈ [((0 : Int), (0 : Int), (0 : Int))] := hp
    rw [List.mem_singleton.mp hp]; exact ⟨h1, h2, h3⟩
theorem Gone3.few (h : Gone3 m t1 t2 t3 left come) (l1 : t1.length ≤ 24) (l2 : t2.length ≤ 24) (l3 : t3.length ≤ 64) : come.length ≤ 36864 := by
  have := nodup_sub_len (ys := (rng 0 ((24 : Nat) : Int)).flatMap fun x => (rng 0 ((24 : Nat) : Int)).flatMap fun y => (rng 0 ((64 : Nat) : Int)).map fun z => (x, y, z)) h.nd fun p hp => by
    obtain ⟨a, b, c⟩ := h.inr p hp
    have a2 := a.2
    have b2 := b.2
    have c2 := c.2
    exact List.mem_flatMap.mpr ⟨p.1, KN.rng_memI a.1 (by omega), List.mem_flatMap.mpr ⟨p.2.1, KN.rng_memI b.1 (by omega), List.mem_map.mpr ⟨p.2.2, KN.rng_memI c.1 (by omega), rfl⟩⟩⟩
  rw [List.length_map] at this
  refine Nat.le_trans this ?_
  rw [List.length_flatMap]
  simp only [List.length_flatMap, List.length_map, rng_len]
  simp only [List.map_const', List.sum_replicate_nat, rng_len]
  decide
theorem Gone3.pop (h : Gone3 m t1 t2 t3 left come) : Gone3 m t1 t2 t3 left.dropLast come := ⟨fun p hp => h.left p (List.dropLast_subset _ hp), h.nd, h.inr⟩
theorem Led3.inr (h1 : TOk m t1) (h2 : TOk m t2) (h3 : TOk m t3) (n1 : InR t1 0) (n2 : InR t2 0) (n3 : InR t3 0) (h : Led3 m t1 t2 t3 p) : InR t1 p.1 ∧ InR t2 p.2.1 ∧ InR t3 p.2.2 := by
  obtain ⟨w, hw, e⟩ := h
  rw [e]
  exact ⟨run_in h1 n1 hw, run_in h2 n2 hw, run_in h3 n3 hw⟩
theorem Gone3.push (h1 : TOk m t1) (h2 : TOk m t2) (h3 : TOk m t3) (n1 : InR t1 0) (n2 : InR t2 0) (n3 : InR t3 0) (h : Gone3 m t1 t2 t3 left come) (hp : Led3 m t1 t2 t3 p) (hn : (dget come p).isSome = false) : dput come p true = come ++ [(p, true)] ∧ Gone3 m t1 t2 t3 (left ++ [p]) (come ++ [(p, true)]) := by
  have hx : p ∉ come.map (·.1) := fun c => by
    have := dget_yes c
    rw [hn] at this
    cases this
  refine ⟨dput_keyed hx, fun q hq => ?_, ?_, fun q hq => ?_⟩
  · rcases List.mem_append.mp hq with c | c
    · exact h.left q c
    · rw [List.mem_singleton.mp c]; exact hp
  · rw [List.map_append]
    refine List.nodup_append.mpr ⟨h.nd, by simp, fun a ha b hb e => hx ?_⟩
    have : b = p := by simpa using hb
    rw [← this, ← e]
    exact ha
  · rw [List.map_append] at hq
    rcases List.mem_append.mp hq with c | c
    · exact h.inr q c
    · have : q = p := by simpa using c
      rw [this]
      exact hp.inr h1 h2 h3 n1 n2 n3
theorem Led3.step (h1 : TOk m t1) (h2 : TOk m t2) (h3 : TOk m t3) (n1 : InR t1 0) (n2 : InR t2 0) (n3 : InR t3 0) (h : Led3 m t1 t2 t3 p) {i : Nat} (hq : ((pyIx t1 p.1).zip ((pyIx t2 p.2.1).zip (pyIx t3 p.2.2)))[i]? = some q) : Led3 m t1 t2 t3 q := by
  obtain ⟨r1, r2, r3⟩ := h.inr h1 h2 h3 n1 n2 n3
  obtain ⟨w, hw, e⟩ := h
  obtain ⟨q1, q23⟩ := List.getElem?_zip_eq_some.mp hq
  obtain ⟨q2, q3⟩ := List.getElem?_zip_eq_some.mp q23
  have hi : i < m := by
    have := (List.getElem?_eq_some_iff.mp q1).1
    rw [h1.len _ (pyIx_mem r1.1 r1.2)] at this
    exact this
  rw [row_get h1 r1 hi] at q1
  rw [row_get h2 r2 hi] at q2
  rw [row_get h3 r3 hi] at q3
  have q1 := Option.some.inj q1
  have q2 := Option.some.inj q2
  have q3 := Option.some.inj q3
  refine ⟨w ++ [i], wd_app hw (wd_one hi), ?_⟩
  rw [run_app, run_app, run_app]
  have a : p.1 = runT t1 0 w := by rw [e]
  have b : p.2.1 = runT t2 0 w := by rw [e]
  have c : p.2.2 = runT t3 0 w := by rw [e]
  rw [← a, ← b, ← c]
  exact Prod.ext q1.symm (Prod.ext q2.symm q3.symm)
end
/-! ### words of letters otherwise -/
theorem cutA_from {α : Type} {xs : List α} {n : Nat} : cutA xs (some (n : Int)) none = xs.drop n := by
  unfold cutA
  rw [HT.sIx_none, HT.sIx_nat]
  by_cases h : n ≤ xs.length
  · rw [Nat.min_eq_left h, List.take_of_length_le (by rw [List.length_drop]; exact Nat.le_refl _)]
  · rw [Nat.min_eq_right (by omega), List.drop_of_length_le (Nat.le_refl _), List.drop_of_length_le (by omega), List.take_nil]
theorem cut_sub {ls : List Str} {k j : Nat} (h : k ≤ j) : (ls.take k ++ ls.drop j).Sublist ls := by
  have e : ls.drop j = (ls.drop k).drop (j - k) := by rw [List.drop_drop]; congr 1; omega
  rw [e]
  have := (List.Sublist.refl (ls.take k)).append (List.drop_sublist (j - k) (ls.drop k))
  rw [List.take_append_drop] at this
  exact this
theorem ls_rot {ls : List Str} (h : LsOk ls) {k : Nat} (h0 : 0 < k) (h1 : k < ls.length) : LsOk (ls.drop k ++ ls.take k) ∧ ls.drop k ++ ls.take k ≠ ls := by
  have p : (ls.drop k ++ ls.take k).Perm ls := by
    have := List.perm_append_comm (l₁ := ls.drop k) (l₂ := ls.take k)
    rw [List.take_append_drop] at this
    exact this
  refine ⟨⟨fun e => ?_, by rw [p.length_eq]; exact h.l7, p.nodup_iff.mpr h.nd, fun s hs => h.w s (p.mem_iff.mp hs)⟩, fun e => ?_⟩
  · have := p.length_eq
    rw [e] at this
    have : ls.length = 0 := this.symm
    omega
  · have e2 : (ls.drop k ++ ls.take k)[0]? = ls[0]? := by rw [e]
    rw [List.getElem?_append_left (by rw [List.length_drop]; omega), List.getElem?_drop, Nat.add_zero] at e2
    have := (List.getElem?_inj h1 h.nd).mp e2
    omega
theorem ls_out {ls : List Str} (h : LsOk ls) {k : Nat} (h1 : k < ls.length) (h2 : 1 < ls.length) : LsOk (ls.take k ++ ls.drop (k + 1)) ∧ ls.take k ++ ls.drop (k + 1) ≠ ls := by
  have sb := cut_sub (ls := ls) (k := k) (j := k + 1) (by omega)
  have len : (ls.take k ++ ls.drop (k + 1)).length + 1 = ls.length := by rw [List.length_append, List.length_take, List.length_drop]; omega
  have l7 := h.l7
  refine ⟨⟨fun e => by rw [e] at len; simp at len; omega, by omega, h.nd.sublist sb, fun s hs => h.w s (sb.subset hs)⟩, fun e => by rw [e] at len; omega⟩
theorem ls_put {ls : List Str} {sp : Str} (h : LsOk ls) (h6 : ls.length ≤ 6) (hw : Word sp) (hn : sp ∉ ls) {k j : Nat} (h1 : k ≤ j) : LsOk (ls.take k ++ [sp] ++ ls.drop j) ∧ ls.take k ++ [sp] ++ ls.drop j ≠ ls := by
  have sb := cut_sub (ls := ls) h1
  have p : (ls.take k ++ [sp] ++ ls.drop j).Perm (sp :: (ls.take k ++ ls.drop j)) := by
    rw [List.append_assoc]
    exact List.perm_middle
  have hm : sp ∈ ls.take k ++ [sp] ++ ls.drop j := p.mem_iff.mpr List.mem_cons_self
  have len := sb.length_le
  refine ⟨⟨fun e => (by rw [e] at hm; exact absurd hm (List.not_mem_nil)), ?_, p.nodup_iff.mpr (List.nodup_cons.mpr ⟨fun c => hn (sb.subset c), h.nd.sublist sb⟩), fun s hs => ?_⟩, fun e => hn (e ▸ hm)⟩
  · rw [p.length_eq, List.length_cons]
    omega
  · rcases List.mem_cons.mp (p.mem_iff.mp hs) with c | c
    · rw [c]; exact hw
    · exact h.w s (sb.subset c)
theorem cut_len {ls : List Str} {a b : Option Int} (h : ls.length ≤ 7) : (cutA ls a b).length ≤ 7 := by
  unfold cutA
  rw [List.length_take, List.length_drop]
  omega
/-! ### the last steps -/
theorem allT {acc : List Bool} (h : ∀ b ∈ acc, b = true) : acc.all id = true := List.all_eq_true.mpr h
theorem snocT {acc : List Bool} {c : Bool} (h : ∀ b ∈ acc, b = true) (hc : c = true) : ∀ b ∈ acc ++ [c], b = true := fun b hb => by
  rcases List.mem_append.mp hb with q | q
  · exact h b q
  · rw [List.mem_singleton.mp q]; exact hc
section
variable {ls : List Str} {t1 t2 : Tab} {g1 g2 : List Int} {low : Ma} {x : Bool × Bool × Bool}
def At3 (ls : List Str) (t1 : Tab) (g1 : List Int) (t2 : Tab) (g2 : List Int) (low : Ma) (x : Bool × Bool × Bool) : Prop := ∃ w, Wd ls.length w ∧ x = (decide (runT t1 0 w ∈ g1), decide (runT t2 0 w ∈ g2), decide (runT low.2.1 0 w ∈ low.2.2))
theorem el_and (h : FormOk ls (fun w => accM (ls, t1, g1) w ∧ accM (ls, t2, g2) w) low) (hx : At3 ls t1 g1 t2 g2 low x) : decide (x.2.2 = (x.1 && x.2.1)) = true := by
  obtain ⟨w, hw, rfl⟩ := hx
  have := h.acc w hw
  refine decide_eq_true ?_
  dsimp only
  rw [Bool.eq_iff_iff, Bool.and_eq_true, decide_eq_true_iff, decide_eq_true_iff, decide_eq_true_iff]
  exact this
theorem el_or (h : FormOk ls (fun w => accM (ls, t1, g1) w ∨ accM (ls, t2, g2) w) low) (hx : At3 ls t1 g1 t2 g2 low x) : decide (x.2.2 = (x.1 || x.2.1)) = true := by
  obtain ⟨w, hw, rfl⟩ := hx
  have := h.acc w hw
  refine decide_eq_true ?_
  dsimp only
  rw [Bool.eq_iff_iff, Bool.or_eq_true, decide_eq_true_iff, decide_eq_true_iff, decide_eq_true_iff]
  exact this
theorem el_not (h : FormOk ls (fun w => ¬ accM (ls, t1, g1) w) low) (hx : At3 ls t1 g1 t2 g2 low x) : (!decide (x.2.2 = x.1)) = true := by
  obtain ⟨w, hw, rfl⟩ := hx
  have := h.acc w hw
  dsimp only
  rw [Bool.not_eq_true', decide_eq_false_iff_not, Bool.eq_iff_iff, decide_eq_true_iff, decide_eq_true_iff]
  intro c
  have this : runT low.2.1 0 w ∈ low.2.2 ↔ ¬ runT t1 0 w ∈ g1 := this
  rw [c] at this
  exact iff_not_self this
end
theorem sml_parts {ls : List Str} {tab : Tab} {good : List Int} (hT : TabOk ls tab) (hg : GoodOk tab good) (h24 : tab.length ≤ 24) : Sml 168360 (.tuple (ls.map .str)) ∧ Sml 168360 (.tuple (tab.map fun r => .tuple (r.map .int))) ∧ Sml 168360 (.tuple (good.map .int)) := by
  have l6 := hT.l6
  have k1 := (sml_words hT.w hT.l6).1
  have ki : ∀ {xs : List Int} {n : Nat}, xs.length ≤ n → (∀ g ∈ xs, 0 ≤ g ∧ g < (tab.length : Int)) → Sml (1002 * n) (.tuple (xs.map .int)) := fun {xs n} hn h => by
    have h2 : ∀ y ∈ xs.map PyData.int, Sml 1001 y := fun y hy => by
      obtain ⟨g, hgm, rfl⟩ := List.mem_map.mp hy
      have := h g hgm
      exact sml_int this.1 (by omega)
    refine (sml_tup h2).mono ?_
    rw [List.length_map]
    omega
  have k3 := ki (Nat.le_trans (good_len hT hg) h24) fun g h => good_in hg h
  have k2 : Sml (7015 * 24) (.tuple (tab.map fun r => .tuple (r.map .int))) := by
    have h2 : ∀ y ∈ tab.map (fun r => PyData.tuple (r.map .int)), Sml 7014 y := fun y hy => by
      obtain ⟨r, hr, rfl⟩ := List.mem_map.mp hy
      exact ki (n := 7) (by rw [hT.len r hr]; exact l6) (hT.goal r hr)
    refine (sml_tup h2).mono ?_
    rw [List.length_map]
    omega
  exact ⟨k1.mono (by decide), k2.mono (by decide), k3.mono (by decide)⟩
theorem sml_two {l1 l2 : List Str} {t1 t2 : Tab} {g1 g2 : List Int} (h1 : TabOk l1 t1) (k1 : GoodOk t1 g1) (n1 : t1.length ≤ 24) (h2 : TabOk l2 t2) (k2 : GoodOk t2 g2) (n2 : t2.length ≤ 24) : Sml 1010166 (.tuple [.tuple (l1.map .str), .tuple (t1.map fun r => .tuple (r.map .int)), .tuple (g1.map .int), .tuple (l2.map .str), .tuple (t2.map fun r => .tuple (r.map .int)), .tuple (g2.map .int)]) := by
  obtain ⟨a1, a2, a3⟩ := sml_parts h1 k1 n1
  obtain ⟨b1, b2, b3⟩ := sml_parts h2 k2 n2
  have h : ∀ x ∈ [PyData.tuple (l1.map .str), .tuple (t1.map fun r => .tuple (r.map .int)), .tuple (g1.map .int), .tuple (l2.map .str), .tuple (t2.map fun r => .tuple (r.map .int)), .tuple (g2.map .int)], Sml 168360 x := fun x hx => by
    simp only [List.mem_cons, List.not_mem_nil, or_false] at hx
    rcases hx with rfl | rfl | rfl | rfl | rfl | rfl
    · exact a1
    · exact a2
    · exact a3
    · exact b1
    · exact b2
    · exact b3
  exact (sml_tup h).mono (by simp only [List.length_cons, List.length_nil]; omega)
theorem tab_of {ls : List Str} {tab : Tab} {good : List Int} (hL : LsOk ls) (h : TG ls.length (tab, good)) : TabOk ls tab :=
  ⟨fun e => by have h0 : 1 ≤ tab.length := h.2.2.1; rw [e] at h0; exact absurd h0 (by decide), Nat.le_trans h.2.2.2 (by decide), hL.ne, hL.l7, hL.nd, hL.w, h.1.len, h.1.goal⟩
end KQ
namespace K11
open PySem PySem.Spec PyProof.Rows L2 MD KP
def topS (i : Nat) : Stmt := PySem.Challenge.pw_meetdesks_k11_both_either_turned.main.body.getD i (.Pass ⟨0, 0, 0, 0⟩)
structure Bs (mg : Str → Option Value) : Prop where
  m_len : mg "len" = none
  b_len : bootBuiltins "len" = some (.builtin "len")
  m_range : mg "range" = none
  b_range : bootBuiltins "range" = some (.type "range")
  m_sorted : mg "sorted" = none
  b_sorted : bootBuiltins "sorted" = some (.builtin "sorted")
  m_set : mg "set" = none
  b_set : bootBuiltins "set" = some (.type "set")
  m_tuple : mg "tuple" = none
  b_tuple : bootBuiltins "tuple" = some (.type "tuple")
  m_list : mg "list" = none
  b_list : bootBuiltins "list" = some (.type "list")
  m_isinstance : mg "isinstance" = none
  b_isinstance : bootBuiltins "isinstance" = some (.builtin "isinstance")
  m_all : mg "all" = none
  b_all : bootBuiltins "all" = some (.builtin "all")
  m_any : mg "any" = none
  b_any : bootBuiltins "any" = some (.builtin "any")
  m_int : mg "int" = none
  b_int : bootBuiltins "int" = some (.type "int")
  m_max : mg "max" = none
  b_max : bootBuiltins "max" = some (.builtin "max")
  m_min : mg "min" = none
  b_min : bootBuiltins "min" = some (.builtin "min")
  m_str : mg "str" = none
  b_str : bootBuiltins "str" = some (.type "str")
  m_enumerate : mg "enumerate" = none
  b_enumerate : bootBuiltins "enumerate" = some (.type "enumerate")
  m_bool : mg "bool" = none
  b_bool : bootBuiltins "bool" = some (.type "bool")
  m_dict : mg "dict" = none
  b_dict : bootBuiltins "dict" = some (.type "dict")
  m_zip : mg "zip" = none
  b_zip : bootBuiltins "zip" = some (.type "zip")
  m_repr : mg "repr" = none
  b_repr : bootBuiltins "repr" = some (.builtin "repr")
  m_ValueError : mg "ValueError" = none
  b_ValueError : bootBuiltins "ValueError" = some (.type "ValueError")
structure Xs (K : PySem.W.Frag) (mg : Str → Option Value) (xa : XA) (C_MeetError : Addr) : Prop where
  c_OtherLetters : XcT K mg "OtherLetters" xa.OtherLetters
  w_OtherLetters : PySem.W.excIn K xa.OtherLetters bmVE "ValueError.__new__" = true
  g_MeetError : mg "MeetError" = some (.ref C_MeetError)
  g_OtherLetters : mg "OtherLetters" = some (.ref xa.OtherLetters)
  b_OtherLetters_ValueError : PySem.W.kitOne K (.ref xa.OtherLetters) (.type "ValueError") = some true
  o_OtherLetters_MeetError : PySem.W.kitOne K (.ref xa.OtherLetters) (.ref C_MeetError) = some true
  x_OtherLetters_OtherLetters : PySem.W.exmOne K (.ref xa.OtherLetters) (.ref xa.OtherLetters) = some true
open KM KN KQ
/-! what the defs of k11 are asked and tell -/
def pre_side_by_side (x : Ma × Ma) : Prop := MaOk x.1 ∧ MaOk x.2 ∧ x.1.1 = x.2.1 ∧ x.1.2.1.length * x.2.2.1.length ≤ 64
def post_side_by_side (x : Ma × Ma) (r : List (Int × Int) × List (List Int)) : Prop := SB x.1.2.1 x.2.2.1 r.1 r.2 ∧ r.1.length ≤ r.2.length
def pre_alike_letters (x : Ma × Ma) : Prop := True
def g_alike (x : Ma × Ma) : Unit ⊕ Rf := if x.1.1 = x.2.1 then .inl () else .inr .otherLetters
def pre_both (x : Ma × Ma) : Prop := MaOk x.1 ∧ MaOk x.2 ∧ x.1.2.1.length * x.2.2.1.length ≤ 64
noncomputable def bothM (x : Ma × Ma) : Ma := formL x.1.1 fun w => accM x.1 w ∧ accM x.2 w
noncomputable def eitherM (x : Ma × Ma) : Ma := formL x.1.1 fun w => accM x.1 w ∨ accM x.2 w
noncomputable def g_both (x : Ma × Ma) : Ma ⊕ Rf := if x.1.1 = x.2.1 then .inl (bothM x) else .inr .otherLetters
noncomputable def g_either (x : Ma × Ma) : Ma ⊕ Rf := if x.1.1 = x.2.1 then .inl (eitherM x) else .inr .otherLetters
def pre_turned (x : Ma) : Prop := MaOk x
def post_turned (x r : Ma) : Prop := FormOk x.1 (fun w => ¬ accM x w) r ∧ r.2.1.length ≤ x.2.1.length
def pre_three (x : (List (List Int) × List Int) × (List (List Int) × List Int) × Ma) : Prop := (∃ m, TG m x.1 ∧ TG m x.2.1 ∧ TOk m x.2.2.2.1) ∧ 0 < x.2.2.2.1.length ∧ x.2.2.2.1.length ≤ 64
def post_three (x : (List (List Int) × List Int) × (List (List Int) × List Int) × Ma) (r : List (Bool × Bool × Bool)) : Prop := ∀ m, TG m x.1 → TG m x.2.1 → TOk m x.2.2.2.1 → ∀ t ∈ r, ∃ w, Wd m w ∧ t = (decide (runT x.1.1 0 w ∈ x.1.2), decide (runT x.2.1.1 0 w ∈ x.2.1.2), decide (runT x.2.2.2.1 0 w ∈ x.2.2.2.2))
def pre_word (x : Bool × Ma × Ma) : Prop := pre_both x.2
def f_word (x : Bool × Ma × Ma) : Str := if x.2.1.1 = x.2.2.1 then "told" else "letters value meet"
def pre_strange (fl : List Int) (x : List Str) : Prop := Fl fl ∧ LsOk x ∧ x.length ≤ 6
def post_strange (fl : List Int) (x : List Str) (r : List Str) (fl2 : List Int) : Prop := Fl fl2 ∧ LsOk r ∧ r ≠ x
abbrev Tg := List (List Int) × List Int
def pre_right (x : List Str × Tg × Tg × Tg) : Prop := LsOk x.1 ∧ x.1.length ≤ 6 ∧ TG x.1.length x.2.1 ∧ TG x.1.length x.2.2.1 ∧ TG x.1.length x.2.2.2 ∧ x.2.1.1.length ≤ 8 ∧ x.2.2.1.1.length ≤ 8 ∧ x.2.2.2.1.length ≤ 8
def f_right (x : List Str × Tg × Tg × Tg) : Bool := true
def pre_long_turned (fl : List Int) (x : List Str) : Prop := Fl fl ∧ LsOk x ∧ x.length ≤ 6
def post_long_turned (fl : List Int) (x : List Str) (r : Bool) (fl2 : List Int) : Prop := Fl fl2 ∧ r = true
def pre_law (x : List Int) : Prop := x.length ≤ 63
def f_law (x : List Int) : Bool := true
end K11
namespace K11
open PySem PySem.Spec PyProof.Rows L2 MD KP KM KN KQ
noncomputable section
variable {P : Program} {w : World} {K : PySem.W.Frag} {mg : Str → Option Value} {base : Heap}
abbrev s_cell : Stmt := topS 19
theorem sc_cell : FnScope ["_law_script", "_law_k", "_law_number"] ["_law_script", "_law_k"] (defScope s_cell) := ⟨rfl, rfl, rfl, by decide +kernel, rfl, by decide +kernel, by decide +kernel⟩
def c_cell (K : PySem.W.Frag) := Con.fn (K := K) (fun x : ((List Int) × Int) => [.val (tLK tI) x.1, .val tI x.2]) tI pre_cell f_cell
theorem ok_cell (bs : Bs mg) {f : Addr} {fd : FuncData} (F : Fun K "_law_cell" "_law_cell" s_cell f fd) : FnOk P w K mg base (L2.CX P w) 1 f fd ["_law_script", "_law_k"] (c_cell K).sp := by
  refine fn_con (c_cell K) F sc_cell (fun _ => rfl) ?_
  intro cdv Ar outer s H E F0 a φ ε hr hp
  have hu := hu_of hr
  have sc := sc_cell
  refine' SK.vc ?hh ?vc
  case hh =>
   refine' sk_seq (sk_if1 (pt_cmp' op_lt r2_B0 (pk_var (i := 1) rfl) (PV.k (pv_cb cr_lenQ bs.m_len bs.b_len u_len (PV.kq (PK.lk (pk_var (i := 0) rfl)))))) ?a12 ?b13)
   case a12 =>
    exact sk_retF (pk_ixR (T := tI) (PK.lk (pk_var (i := 0) rfl)) (pk_var (i := 1) rfl))
   case b13 =>
    refine' sk_nilX rfl ?k14
    case k14 =>
     refine' sk_set (i := 2) (by exact sc.nd) (pk_op op_add r2_I0 (pk_op op_mul r2_I (pk_var (i := 1) rfl) pk_int) pk_int) ?k15
     case k15 =>
      intro number_1
      refine' sk_st (ρ2 := [.val (tLK tI) a.1, .val tI a.2, .val tI number_1]) (cs2 := []) rfl rfl ?k16
      case k16 =>
       refine' sk_join (fun z_2 : Int => [.val (tLK tI) a.1, .val tI a.2, .val tI z_2]) (fun z_2 : Int => []) ?h17 ?k18
       case h17 =>
        intro R_3
        refine' sk_if1 (pt_cmp' op_gt r2_B0 (PV.k (pv_cb cr_lenQ bs.m_len bs.b_len u_len (PV.kq (PK.lk (pk_var (i := 0) rfl))))) pk_int) ?a19 ?b20
        case a19 =>
         refine' sk_set (i := 2) (by exact sc.nd) (pk_op op_add r2_I0 (pk_op op_mul r2_I (pk_op op_mod r2_I (pk_ixR (T := tI) (PK.lk (pk_var (i := 0) rfl)) (pk_op op_mod r2_I (pk_op op_mul r2_I (pk_var (i := 1) rfl) pk_int) (PV.k (pv_cb cr_lenQ bs.m_len bs.b_len u_len (PV.kq (PK.lk (pk_var (i := 0) rfl))))))) pk_int) pk_int) (pk_op op_mul r2_I (pk_var (i := 1) rfl) pk_int)) ?k21
         case k21 =>
          intro number_4
          refine' sk_st (ρ2 := [.val (tLK tI) a.1, .val tI a.2, .val tI number_4]) (cs2 := []) rfl rfl ?k22
          case k22 =>
           exact sk_midX (z := _) rfl (.same (.same (.same .nil))) rfl
        case b20 =>
         exact sk_midX (z := _) rfl (.same (.same (.same .nil))) rfl
       case k18 =>
        intro z_2
        exact sk_retF (pk_op op_mul r2_I (pk_op op_mod r2_I (pk_var (i := 2) rfl) pk_int) pk_int)
  case vc =>
   intro h
   simp only [true_and, and_true, yes1, yes2]
   obtain ⟨xs, k⟩ := a
   obtain ⟨hk, hφ⟩ := h
   have hk : 0 ≤ k := hk
   try dsimp only at hφ
   try dsimp only
   have l0 : (0 : Int) ≤ xs.length := Int.natCast_nonneg _
   refine ⟨fun h1 => ?_, fun h1 => ?_⟩
   · have h1 : k < xs.length := of_decide_eq_true h1
     refine ⟨⟨by omega, h1⟩, hφ _ ?_⟩
     unfold f_cell
     rw [if_pos h1]
   · have h1 : ¬ k < xs.length := of_decide_eq_false h1
     refine ⟨.inr ⟨by decide, by decide⟩, fun z hz => ⟨fun y => y = (if 0 < xs.length then pyIx xs (k * 7 % xs.length) % 2147483629 * 48271 + k * 7919 else k * 7919 + 5), ⟨fun h2 => ?_, fun h2 => ?_⟩, fun y hy => ?_⟩⟩
     · have h2 : 0 < (xs.length : Int) := of_decide_eq_true h2
       have h3 : 0 < xs.length := by omega
       refine ⟨⟨⟨⟨⟨⟨.inr ⟨by decide, by decide⟩, h2⟩, ?_⟩, by decide⟩, .inr ⟨by decide, by decide⟩⟩, .inr ⟨by decide, by decide⟩⟩, fun y hy => ?_⟩
       · have := Int.emod_nonneg (k * 7) (show (xs.length : Int) ≠ 0 by omega)
         exact ⟨by omega, Int.emod_lt_of_pos _ h2⟩
       · rw [if_pos h3]; exact hy
     · have h2 : ¬ 0 < (xs.length : Int) := of_decide_eq_false h2
       rw [if_neg (by omega)]; exact hz
     · refine ⟨⟨by decide, .inr ⟨by decide, by decide⟩⟩, hφ _ ?_⟩
       unfold f_cell
       rw [if_neg h1, hy]
abbrev s_flow : Stmt := topS 20
theorem sc_flow : FnScope ["_law_script", "_law_k", "_law_cell_here", "_law_own"] ["_law_script", "_law_k"] (defScope s_flow) := ⟨rfl, rfl, rfl, by decide +kernel, rfl, by decide +kernel, by decide +kernel⟩
def c_flow (K : PySem.W.Frag) := Con.mk1 (K := K) (fun x : ((List Int) × Int) => [.val (tLK tI) x.1, .val tI x.2]) tI pre_flow post_flow
theorem ok_flow (bs : Bs mg) {f_cell : Addr} {fd_cell : FuncData} (g_cell : Cal P w K mg base "_law_cell" 1 ["_law_script", "_law_k"] (c_cell K).sp f_cell fd_cell) {f : Addr} {fd : FuncData} (F : Fun K "_law_flow" "_law_flow" s_flow f fd) : FnOk P w K mg base (L2.CX P w) 2 f fd ["_law_script", "_law_k"] (c_flow K).sp := by
  refine fn_con (c_flow K) F sc_flow (fun _ => rfl) ?_
  intro cdv Ar outer s H E F0 a φ ε hr hp
  have hu := hu_of hr
  have sc := sc_flow
  refine' SK.vc ?hh ?vc
  case hh =>
   refine' sk_set (i := 2) (by exact sc.nd) (pk_fn g_cell.F (slC sl1) hr g_cell.m g_cell.k g_cell.b (pa_C (pk_var (i := 0) rfl) (pa_1 (pk_var (i := 1) rfl)))) ?k33
   case k33 =>
    intro cell_here_1
    refine' sk_st (ρ2 := [.val (tLK tI) a.1, .val tI a.2, .val tI cell_here_1, .un]) (cs2 := []) rfl rfl ?k34
    case k34 =>
     refine' sk_set (i := 3) (by exact sc.nd) pk_int ?k35
     case k35 =>
      intro own_2
      refine' sk_st (ρ2 := [.val (tLK tI) a.1, .val tI a.2, .val tI cell_here_1, .val tI own_2]) (cs2 := []) rfl rfl ?k36
      case k36 =>
       refine' sk_join (fun z_3 : Int => [.val (tLK tI) a.1, .val tI a.2, .val tI cell_here_1, .val tI z_3]) (fun z_3 : Int => []) ?h37 ?k38
       case h37 =>
        intro R_4
        refine' sk_if1 (pt_cmp' op_ge r2_B0 (pk_var (i := 2) rfl) (pk_op op_pow r2_I pk_int pk_int)) ?a39 ?b40
        case a39 =>
         refine' sk_set (i := 3) (by exact sc.nd) (pk_var (i := 2) rfl) ?k41
         case k41 =>
          intro own_5
          refine' sk_st (ρ2 := [.val (tLK tI) a.1, .val tI a.2, .val tI cell_here_1, .val tI own_5]) (cs2 := []) rfl rfl ?k42
          case k42 =>
           exact sk_midX (z := _) rfl (.same (.same (.same (.same .nil)))) rfl
        case b40 =>
         exact sk_midX (z := _) rfl (.same (.same (.same (.same .nil)))) rfl
       case k38 =>
        intro z_3
        exact sk_retN (NK.ne (nk_lst (pl_C (pk_var (i := 3) rfl) (pl_C pk_int (pl_C (pk_op op_add r2_I0 (pk_op op_mod r2_I (pk_var (i := 2) rfl) pk_int) (pk_op op_mul r2_I pk_int (pk_var (i := 1) rfl))) pl_0))) (Nat.le_of_ble_eq_true rfl)))
  case vc =>
   intro h
   simp only [true_and, and_true, yes1, yes2]
   obtain ⟨xs, k⟩ := a
   obtain ⟨⟨k0, k1⟩, hφ⟩ := h
   have k0 : 0 ≤ k := k0
   have k1 : k ≤ 1000000 := k1
   try dsimp only at hφ
   try dsimp only
   refine ⟨k0, fun c hc o ho => ⟨fun _ => True, ⟨⟨by decide, by decide, by decide⟩, fun _ _ _ => trivial, fun _ => trivial⟩, fun x _ => ⟨⟨by decide, .inl ⟨by decide, by decide⟩⟩, fun l r hr => hφ l r ?_⟩⟩⟩
   have m := Int.emod_nonneg c (show (2147483629 : Int) ≠ 0 by decide)
   have m2 := Int.emod_lt_of_pos c (show (0 : Int) < 2147483629 by decide)
   exact ⟨x, 0, c % 2147483629 + 40692 * k, hr, by omega, by omega⟩
abbrev s_draw : Stmt := topS 21
theorem sc_draw : FnScope ["_law_flow_here", "_law_many", "_law_digit", "_law_number"] ["_law_flow_here", "_law_many"] (defScope s_draw) := ⟨rfl, rfl, rfl, by decide +kernel, rfl, by decide +kernel, by decide +kernel⟩
def c_draw (K : PySem.W.Frag) := Con.o1 (K := K) tI (fun x : Int => [.val tI x]) tI pre_draw post_draw
theorem ok_draw (bs : Bs mg) {f : Addr} {fd : FuncData} (F : Fun K "_law_draw" "_law_draw" s_draw f fd) : FnOk P w K mg base (L2.CX P w) 1 f fd ["_law_flow_here", "_law_many"] (c_draw K).sp := by
  refine fn_con (c_draw K) F sc_draw (fun _ => rfl) ?_
  intro cdv Ar outer s H E F0 a φ ε hr hp
  have hu := hu_of hr
  have sc := sc_draw
  refine' SK.vc ?hh ?vc
  case hh =>
   refine' sk_seq (sk_if1 (pt_cmp' op_gt r2_B0 (pk_ixR (T := tI) (PV.lk (PK.own 0 (pk_var (i := 0) rfl) rfl)) pk_int) pk_int) ?a56 ?b57)
   case a56 =>
    refine' sk_set (i := 2) (by exact sc.nd) (pk_op op_mod r2_I (pk_ixR (T := tI) (PV.lk (PK.own 0 (pk_var (i := 0) rfl) rfl)) pk_int) (pk_var (i := 1) rfl)) ?k58
    case k58 =>
     intro digit_1
     refine' sk_st (ρ2 := [.val tR a.1, .val tI a.2.2, .val tI digit_1, .un]) (cs2 := [⟨a.1, cL tI a.2.1⟩]) rfl rfl ?k59
     case k59 =>
      refine' sk_setIx 0 (PK.ek (pk_op op_fdiv r2_I (pk_ixR (T := tI) (PV.lk (PK.own 0 (pk_var (i := 0) rfl) rfl)) pk_int) (pk_var (i := 1) rfl))) (fun _ => (pk_var (i := 0) rfl)) (fun _ => pk_int) (fun _ => rfl) ?k60
      case k60 =>
       intro y_2 w_3
       refine' sk_st (ρ2 := [.val tR a.1, .val tI a.2.2, .val tI digit_1, .un]) (cs2 := [⟨a.1, cL tI w_3⟩]) rfl rfl ?k61
       case k61 =>
        exact sk_retO (pk_var (i := 2) rfl) rfl
   case b57 =>
    refine' sk_nilX rfl ?k62
    case k62 =>
     refine' sk_setIx 0 (PK.ek (pk_op op_add r2_I0 (pk_ixR (T := tI) (PV.lk (PK.own 0 (pk_var (i := 0) rfl) rfl)) pk_int) pk_int)) (fun _ => (pk_var (i := 0) rfl)) (fun _ => pk_int) (fun _ => rfl) ?k63
     case k63 =>
      intro y_4 w_5
      refine' sk_st (ρ2 := [.val tR a.1, .val tI a.2.2, .un, .un]) (cs2 := [⟨a.1, cL tI w_5⟩]) rfl rfl ?k64
      case k64 =>
       refine' sk_set (i := 3) (by exact sc.nd) (pk_op op_mod r2_I (pk_op op_add r2_I0 (pk_op op_add r2_I0 (pk_op op_mul r2_I (pk_ixR (T := tI) (PV.lk (PK.own 0 (pk_var (i := 0) rfl) rfl)) pk_int) (pk_op op_add r2_I0 pk_int (pk_op op_mul r2_I pk_int (pk_ixR (T := tI) (PV.lk (PK.own 0 (pk_var (i := 0) rfl) rfl)) pk_int)))) (pk_op op_mul r2_I pk_int (pk_ixR (T := tI) (PV.lk (PK.own 0 (pk_var (i := 0) rfl) rfl)) pk_int))) pk_int) pk_int) ?k65
       case k65 =>
        intro number_6
        refine' sk_st (ρ2 := [.val tR a.1, .val tI a.2.2, .un, .val tI number_6]) (cs2 := [⟨a.1, cL tI w_5⟩]) rfl rfl ?k66
        case k66 =>
         refine' sk_set (i := 3) (by exact sc.nd) (pk_op op_mod r2_I (pk_op op_mul r2_I (pk_var (i := 3) rfl) (pk_var (i := 3) rfl)) pk_int) ?k67
         case k67 =>
          intro number_7
          refine' sk_st (ρ2 := [.val tR a.1, .val tI a.2.2, .un, .val tI number_7]) (cs2 := [⟨a.1, cL tI w_5⟩]) rfl rfl ?k68
          case k68 =>
           exact sk_retO (pk_op op_mod r2_I (pk_op op_fdiv r2_I (pk_op op_mod r2_I (pk_op op_mul r2_I (pk_op op_add r2_I0 (pk_var (i := 3) rfl) pk_int) (pk_op op_add r2_I0 (pk_var (i := 3) rfl) pk_int)) pk_int) pk_int) (pk_var (i := 1) rfl)) rfl
  case vc =>
   intro h
   simp only [true_and, and_true, yes1, yes2]
   obtain ⟨l, fl, n⟩ := a
   obtain ⟨⟨⟨x, b, c, hf, c0, c1⟩, n0, n1⟩, hφ⟩ := h
   simp only at hf n0 n1 hφ ⊢
   subst hf
   have i0 : pyIx [x, b, c] 0 = x := rfl
   have o0 : IxOk [x, b, c] 0 := ⟨by simp, by simp⟩
   have o1 : IxOk [x, b, c] 1 := ⟨by simp, by simp⟩
   have w0 : IxW [x, b, c] 0 := ⟨by simp, by simp⟩
   have w1 : IxW [x, b, c] 1 := ⟨by simp, by simp⟩
   rw [i0]
   refine ⟨o0, fun hx => ⟨⟨o0, n0⟩, fun z hz => ⟨⟨o0, ?_⟩, w0, fun z1 hz1 => hφ _ _ ⟨?_, ?_, ?_⟩⟩⟩, fun hx => ⟨o1, w1, fun z hz => ?_⟩⟩
   · exact ⟨n0, by omega⟩
   · rw [hz]; exact Int.emod_nonneg _ (by omega)
   · rw [hz]; exact Int.emod_lt_of_pos _ n0
   · exact ⟨x / n, b, c, by rw [hz1]; rfl, c0, c1⟩
   · have hz' : z = [x, b + 1, c] := by rw [hz]; rfl
     clear hz
     subst hz'
     have j1 : pyIx [x, b + 1, c] 1 = b + 1 := rfl
     have j2 : pyIx [x, b + 1, c] 2 = c := rfl
     have p1 : IxOk [x, b + 1, c] 1 := ⟨by simp, by simp⟩
     have p2 : IxOk [x, b + 1, c] 2 := ⟨by simp, by simp⟩
     rw [j1, j2]
     refine ⟨⟨⟨⟨p2, ⟨p1, .inl ⟨by decide, by decide⟩⟩, .inl ⟨by omega, by omega⟩⟩, p1, .inl ⟨by decide, by decide⟩⟩, by decide⟩, fun z1 hz1 => ?_⟩
     have m1 : 0 ≤ z1 ∧ z1 < 2147483629 := by rw [hz1]; exact ⟨Int.emod_nonneg _ (by decide), Int.emod_lt_of_pos _ (by decide)⟩
     clear hz1
     refine ⟨⟨.inl ⟨by omega, by omega⟩, by decide⟩, fun z2 hz2 => ?_⟩
     have m2 : 0 ≤ z2 ∧ z2 < 2147483587 := by rw [hz2]; exact ⟨Int.emod_nonneg _ (by decide), Int.emod_lt_of_pos _ (by decide)⟩
     clear hz2
     refine ⟨⟨⟨⟨.inl ⟨by omega, by omega⟩, by decide⟩, ⟨by decide, by decide⟩⟩, n0⟩, hφ _ _ ⟨Int.emod_nonneg _ (by omega), Int.emod_lt_of_pos _ n0, x, b + 1, c, rfl, c0, c1⟩⟩
abbrev s_names : Stmt := topS 22
theorem sc_names : FnScope ["_law_flow_here", "_law_many", "_law_some", "_law_found", "_law_k", "_law_name", "_law_word_here", "_law_at", "_law_first", "_law_long", "_law_j", "_law_one"] ["_law_flow_here", "_law_many"] (defScope s_names) := ⟨rfl, rfl, rfl, by decide +kernel, rfl, by decide +kernel, by decide +kernel⟩
def c_names (K : PySem.W.Frag) := Con.o1 (K := K) tI (fun x : Int => [.val tI x]) (tL tS) pre_names post_names
theorem ok_names (bs : Bs mg) {f_draw : Addr} {fd_draw : FuncData} (g_draw : Cal P w K mg base "_law_draw" 1 ["_law_flow_here", "_law_many"] (c_draw K).sp f_draw fd_draw) {f : Addr} {fd : FuncData} (F : Fun K "_law_names" "_law_names" s_names f fd) : FnOk P w K mg base (L2.CX P w) 2 f fd ["_law_flow_here", "_law_many"] (c_names K).sp := by
  refine fn_con (c_names K) F sc_names (fun _ => rfl) ?_
  intro cdv Ar outer s H E F0 a φ ε hr hp
  have hu := hu_of hr
  have sc := sc_names
  refine' SK.vc ?hh ?vc
  case hh =>
   refine' sk_set (i := 2) (by exact sc.nd) pk_str ?k142
   case k142 =>
    intro some_1
    refine' sk_st (ρ2 := [.val tR a.1, .val tI a.2.2, .val tS some_1, .un, .un, .un, .un, .un, .un, .un, .un, .un]) (cs2 := [⟨a.1, cL tI a.2.1⟩]) rfl rfl ?k143
    case k143 =>
     refine' sk_seq (sk_if1E (tk_cmp op_eq r2_eqI (ek_o1 0 g_draw.F sl1 hr g_draw.m g_draw.k g_draw.b (pk_var (i := 0) rfl) (PAK.ak (pa_1 pk_int)) (fun _ => rfl)) (fun _ => (PK.ek pk_int))) ?a144 ?b145)
     case a144 =>
      intro y_2
      refine' sk_name 0 rfl ?k146
      case k146 =>
       intro w_4
       refine' sk_st (ρ2 := [.val tR a.1, .val tI a.2.2, .val tS some_1, .un, .un, .un, .un, .un, .un, .un, .un, .un]) (cs2 := [⟨a.1, cL tI w_4⟩]) rfl rfl ?k147
       case k147 =>
        refine' sk_setN (i := 3) (T := tS) (by exact sc.nd) (NK.ne (nk_lst (T := tS) (pl_0 (T := tS)) (Nat.zero_le _))) ?k148
        case k148 =>
         intro y_5 a_6 found_7
         refine' sk_st (ρ2 := [.val tR a.1, .val tI a.2.2, .val tS some_1, .val tR a_6, .un, .un, .un, .un, .un, .un, .un, .un]) (cs2 := [⟨a.1, cL tI w_4⟩, ⟨a_6, cL tS found_7⟩]) rfl rfl ?k149
         case k149 =>
          refine' sk_for (fun z_8 : (List Int × List Str) => [.val tR a.1, .val tI a.2.2, .val tS some_1, .val tR a_6, .un, .un, .un, .un, .un, .un, .un, .un]) (fun z_8 : (List Int × List Str) => [⟨a.1, cL tI z_8.1⟩, ⟨a_6, cL tS z_8.2⟩]) (_, _) hp rfl (ik_range1 bs.m_range (pk_var (i := 1) rfl)) (gk_name (i := 4) (by exact sc.nd)) (.same (.same (.same (.same (.same (.same (.same (.same (.same (.same (.same (.same .nil)))))))))))) rfl ?b150 ?k151
          case b150 =>
           intro fl_12 hs_11 N_10 z_8 x_9
           refine' sk_st (ρ2 := [.val tR a.1, .val tI a.2.2, .val tS some_1, .val tR a_6, .val tI x_9, .un, .un, .un, .un, .un, .un, .un]) (cs2 := [⟨a.1, cL tI z_8.1⟩, ⟨a_6, cL tS z_8.2⟩]) rfl rfl ?k152
           case k152 =>
            refine' sk_setE (i := 5) (by exact sc.nd) (ek_join pk_str (EV.q (NE.l (ne_lc rfl (by exact sc.nd) ?lc2 ?lc1 ?lc3)))) ?k156
            case lc2 =>
             exact blkOk_by (own := [("_law_j", 10)]) (N := ["_law_flow_here", "_law_many", "_law_some", "_law_found", "_law_k", "_law_name", "_law_word_here", "_law_at", "_law_first", "_law_long", "_law_j", "_law_one"]) (sc := defScope s_names) (by decide +kernel)
            case lc1 =>
             exact lc_k (own := [("_law_j", 10)]) (T := tI) (U := tS) (G := fun ρ x => (List.set ρ 10 (.val tI x))) (vs := [10]) (cs' := (fun c_13 : List Int => [⟨a.1, cL tI c_13⟩, ⟨a_6, cL tS z_8.2⟩])) (z0 := fun y => _) (ie_range1 bs.m_range (ek_op op_add r2_I0 (PK.ek pk_int) (fun _ => (ek_o1 0 g_draw.F sl1 hr g_draw.m g_draw.k g_draw.b (pk_var (i := 0) rfl) (PAK.ak (pa_1 pk_int)) (fun _ => rfl))))) (fun _ => rfl) (by decide) (fun _ _ _ _ _ => (gk_name (i := 10) (by exact sc.nd))) (fun _ _ _ _ _ _ _ => ts_0) (fun _ _ _ _ _ _ _ _ => (ek_ixS (PK.ek (pk_var (i := 2) rfl)) (fun _ => (ek_o1 0 g_draw.F sl1 hr g_draw.m g_draw.k g_draw.b (pk_var (i := 0) rfl) (PAK.ak (pa_1 pk_int)) (fun _ => rfl)))))
            case lc3 =>
             exact fun _ => rfl
            case k156 =>
             intro y_16 name_15
             refine' sk_name 0 rfl ?k157
             case k157 =>
              intro w_17
              refine' sk_st (ρ2 := [.val tR a.1, .val tI a.2.2, .val tS some_1, .val tR a_6, .val tI x_9, .val tS name_15, .un, .un, .un, .un, .un, .un]) (cs2 := [⟨a.1, cL tI w_17⟩, ⟨a_6, cL tS z_8.2⟩]) rfl rfl ?k158
              case k158 =>
               refine' sk_st (ρ2 := [.val tR a.1, .val tI a.2.2, .val tS some_1, .val tR a_6, .val tI x_9, .val tS name_15, .un, .un, .un, .un, .un, .un]) (cs2 := [⟨a.1, cL tI w_17⟩, ⟨a_6, cL tS z_8.2⟩]) rfl rfl ?k159
               case k159 =>
                refine' sk_join (fun z_18 : Str => [.val tR a.1, .val tI a.2.2, .val tS some_1, .val tR a_6, .val tI x_9, .val tS z_18, .un, .un, .un, .un, .un, .un]) (fun z_18 : Str => [⟨a.1, cL tI w_17⟩, ⟨a_6, cL tS z_8.2⟩]) ?h160 ?k161
                case h160 =>
                 intro R_19
                 refine' sk_if1 (pt_in fS (pk_var (i := 5) rfl) (PV.q (PK.own 1 (pk_var (i := 3) rfl) rfl))) ?a162 ?b163
                 case a162 =>
                  refine' sk_setE (i := 5) (by exact sc.nd) (ek_ixR (T := tS) (EV.lk (NE.l (ne_lc rfl (by exact sc.nd) ?lc14 ?lc13 ?lc15))) (fun _ => pk_int)) ?k167
                  case lc14 =>
                   exact blkOk_by (own := [("_law_one", 11)]) (N := ["_law_flow_here", "_law_many", "_law_some", "_law_found", "_law_k", "_law_name", "_law_word_here", "_law_at", "_law_first", "_law_long", "_law_j", "_law_one"]) (sc := defScope s_names) (by decide +kernel)
                  case lc13 =>
                   exact lc_k (own := [("_law_one", 11)]) (T := tS) (U := tS) (G := fun ρ x => (List.set ρ 11 (.val tS x))) (vs := [11]) (cs' := (fun _ : Unit => [⟨a.1, cL tI w_17⟩, ⟨a_6, cL tS z_8.2⟩])) (z0 := fun y => ()) (s1 := fun _ _ _ => ()) (s2 := fun _ _ _ _ => ()) (IK.ie (ik_str (pk_var (i := 2) rfl))) (fun _ => rfl) (by decide) (fun _ _ _ _ _ => (gk_name (i := 11) (by exact sc.nd))) (fun _ _ _ _ _ _ _ => (ts_1 (PTK.tk (pt_nin fS (pk_var (i := 11) rfl) (PV.q (PK.own 1 (pk_var (i := 3) rfl) rfl)))))) (fun _ _ _ _ _ _ _ _ => (PK.ek (pk_var (i := 11) rfl)))
                  case lc15 =>
                   exact fun _ => rfl
                  case k167 =>
                   intro y_25 name_24
                   refine' sk_st (ρ2 := [.val tR a.1, .val tI a.2.2, .val tS some_1, .val tR a_6, .val tI x_9, .val tS name_24, .un, .un, .un, .un, .un, .un]) (cs2 := [⟨a.1, cL tI w_17⟩, ⟨a_6, cL tS z_8.2⟩]) rfl rfl ?k168
                   case k168 =>
                    exact sk_midX (z := _) rfl (.same (.same (.same (.same (.same (.same (.same (.same (.same (.same (.same (.same .nil)))))))))))) rfl
                 case b163 =>
                  exact sk_midX (z := _) rfl (.same (.same (.same (.same (.same (.same (.same (.same (.same (.same (.same (.same .nil)))))))))))) rfl
                case k161 =>
                 intro z_18
                 refine' sk_expr (ek_mL PySem.F.slot_list_append PySem.F.type_list_append mt_append ml_append 1 (pk_var (i := 3) rfl) (ak_1 (PK.ek (pk_var (i := 5) rfl))) (fun _ => rfl) ⟨_, rfl⟩) ?k169
                 case k169 =>
                  intro y_26
                  refine' sk_name 1 rfl ?k170
                  case k170 =>
                   intro w_27
                   refine' sk_st (ρ2 := [.val tR a.1, .val tI a.2.2, .val tS some_1, .val tR a_6, .val tI x_9, .val tS z_18, .un, .un, .un, .un, .un, .un]) (cs2 := [⟨a.1, cL tI w_17⟩, ⟨a_6, cL tS w_27⟩]) rfl rfl ?k171
                   case k171 =>
                    exact sk_midX (z := (_, _)) rfl (.same (.same (.same (.same (.un (.un (.same (.same (.same (.same (.same (.same .nil)))))))))))) rfl
          case k151 =>
           intro z_8
           refine' sk_freeze 1 3 rfl rfl rfl (Nat.le_of_ble_eq_true rfl) ?k172
           case k172 =>
            refine' sk_st (ρ2 := [.val tR a.1, .val tI a.2.2, .val tS some_1, .val (tL tS) z_8.2, .un, .un, .un, .un, .un, .un, .un, .un]) (cs2 := [⟨a.1, cL tI z_8.1⟩]) rfl rfl ?k173
            case k173 =>
             exact sk_retO (pk_var (i := 3) rfl) rfl
     case b145 =>
      intro y_3
      refine' sk_name 0 rfl ?k174
      case k174 =>
       intro w_28
       refine' sk_st (ρ2 := [.val tR a.1, .val tI a.2.2, .val tS some_1, .un, .un, .un, .un, .un, .un, .un, .un, .un]) (cs2 := [⟨a.1, cL tI w_28⟩]) rfl rfl ?k175
       case k175 =>
        refine' sk_nilX rfl ?k176
        case k176 =>
         refine' sk_setE (i := 6) (by exact sc.nd) (ek_join pk_str (EV.q (NE.l (ne_lc rfl (by exact sc.nd) ?lc17 ?lc16 ?lc18)))) ?k180
         case lc17 =>
          exact blkOk_by (own := [("_law_j", 10)]) (N := ["_law_flow_here", "_law_many", "_law_some", "_law_found", "_law_k", "_law_name", "_law_word_here", "_law_at", "_law_first", "_law_long", "_law_j", "_law_one"]) (sc := defScope s_names) (by decide +kernel)
         case lc16 =>
          exact lc_k (own := [("_law_j", 10)]) (T := tI) (U := tS) (G := fun ρ x => (List.set ρ 10 (.val tI x))) (vs := [10]) (cs' := (fun c_29 : List Int => [⟨a.1, cL tI c_29⟩])) (z0 := fun y => _) (ie_range1 bs.m_range (ek_o1 0 g_draw.F sl1 hr g_draw.m g_draw.k g_draw.b (pk_var (i := 0) rfl) (PAK.ak (pa_1 pk_int)) (fun _ => rfl))) (fun _ => rfl) (by decide) (fun _ _ _ _ _ => (gk_name (i := 10) (by exact sc.nd))) (fun _ _ _ _ _ _ _ => ts_0) (fun _ _ _ _ _ _ _ _ => (ek_ixS (PK.ek (pk_var (i := 2) rfl)) (fun _ => (ek_o1 0 g_draw.F sl1 hr g_draw.m g_draw.k g_draw.b (pk_var (i := 0) rfl) (PAK.ak (pa_1 pk_int)) (fun _ => rfl)))))
         case lc18 =>
          exact fun _ => rfl
         case k180 =>
          intro y_32 word_here_31
          refine' sk_name 0 rfl ?k181
          case k181 =>
           intro w_33
           refine' sk_st (ρ2 := [.val tR a.1, .val tI a.2.2, .val tS some_1, .un, .un, .un, .val tS word_here_31, .un, .un, .un, .un, .un]) (cs2 := [⟨a.1, cL tI w_33⟩]) rfl rfl ?k182
           case k182 =>
            refine' sk_st (ρ2 := [.val tR a.1, .val tI a.2.2, .val tS some_1, .un, .un, .un, .val tS word_here_31, .un, .un, .un, .un, .un]) (cs2 := [⟨a.1, cL tI w_33⟩]) rfl rfl ?k183
            case k183 =>
             refine' sk_setE (i := 7) (by exact sc.nd) (ek_o1 0 g_draw.F sl1 hr g_draw.m g_draw.k g_draw.b (pk_var (i := 0) rfl) (PAK.ak (pa_1 (pk_op op_add r2_I0 (PV.k (pv_cb call_len_str bs.m_len bs.b_len u_lenS (PK.v (pk_var (i := 6) rfl)))) pk_int))) (fun _ => rfl)) ?k184
             case k184 =>
              intro y_35 at_34
              refine' sk_name 0 rfl ?k185
              case k185 =>
               intro w_36
               refine' sk_st (ρ2 := [.val tR a.1, .val tI a.2.2, .val tS some_1, .un, .un, .un, .val tS word_here_31, .val tI at_34, .un, .un, .un, .un]) (cs2 := [⟨a.1, cL tI w_36⟩]) rfl rfl ?k186
               case k186 =>
                refine' sk_st (ρ2 := [.val tR a.1, .val tI a.2.2, .val tS some_1, .un, .un, .un, .val tS word_here_31, .val tI at_34, .un, .un, .un, .un]) (cs2 := [⟨a.1, cL tI w_36⟩]) rfl rfl ?k187
                case k187 =>
                 refine' sk_setE (i := 8) (by exact sc.nd) (ek_o1 0 g_draw.F sl1 hr g_draw.m g_draw.k g_draw.b (pk_var (i := 0) rfl) (PAK.ak (pa_1 pk_int)) (fun _ => rfl)) ?k188
                 case k188 =>
                  intro y_38 first_37
                  refine' sk_name 0 rfl ?k189
                  case k189 =>
                   intro w_39
                   refine' sk_st (ρ2 := [.val tR a.1, .val tI a.2.2, .val tS some_1, .un, .un, .un, .val tS word_here_31, .val tI at_34, .val tI first_37, .un, .un, .un]) (cs2 := [⟨a.1, cL tI w_39⟩]) rfl rfl ?k190
                   case k190 =>
                    refine' sk_st (ρ2 := [.val tR a.1, .val tI a.2.2, .val tS some_1, .un, .un, .un, .val tS word_here_31, .val tI at_34, .val tI first_37, .un, .un, .un]) (cs2 := [⟨a.1, cL tI w_39⟩]) rfl rfl ?k191
                    case k191 =>
                     refine' sk_setN (i := 3) (T := tS) (by exact sc.nd) (ne_lc rfl (by exact sc.nd) ?lc20 ?lc19 ?lc21) ?k195
                     case lc20 =>
                      exact blkOk_by (own := [("_law_k", 4)]) (N := ["_law_flow_here", "_law_many", "_law_some", "_law_found", "_law_k", "_law_name", "_law_word_here", "_law_at", "_law_first", "_law_long", "_law_j", "_law_one"]) (sc := defScope s_names) (by decide +kernel)
                     case lc19 =>
                      exact lc_k (own := [("_law_k", 4)]) (T := tI) (U := tS) (G := fun ρ x => (List.set ρ 4 (.val tI x))) (vs := [4]) (cs' := (fun _ : Unit => [⟨a.1, cL tI w_39⟩])) (z0 := fun y => ()) (s1 := fun _ _ _ => ()) (s2 := fun _ _ _ _ => ()) (IK.ie (ik_range1 bs.m_range (pk_var (i := 1) rfl))) (fun _ => rfl) (by decide) (fun _ _ _ _ _ => (gk_name (i := 4) (by exact sc.nd))) (fun _ _ _ _ _ _ _ => ts_0) (fun _ _ _ _ _ _ _ _ => (PK.ek (pk_op op_add_str r2_addS (pk_op op_add_str r2_addS (pk_slS (pk_var (i := 6) rfl) po_0 (po_1 (pk_var (i := 7) rfl))) (pk_ixS (pk_var (i := 2) rfl) (pk_op op_mod r2_I (pk_op op_add r2_I0 (pk_var (i := 8) rfl) (pk_op op_mul r2_I pk_int (pk_var (i := 4) rfl))) pk_int))) (pk_slS (pk_var (i := 6) rfl) (po_1 (pk_var (i := 7) rfl)) po_0))))
                     case lc21 =>
                      exact fun _ => rfl
                     case k195 =>
                      intro y_42 a_43 found_44
                      refine' sk_st (ρ2 := [.val tR a.1, .val tI a.2.2, .val tS some_1, .val tR a_43, .un, .un, .val tS word_here_31, .val tI at_34, .val tI first_37, .un, .un, .un]) (cs2 := [⟨a.1, cL tI w_39⟩, ⟨a_43, cL tS found_44⟩]) rfl rfl ?k196
                      case k196 =>
                       refine' sk_join (fun z_45 : (List Int × List Str) => [.val tR a.1, .val tI a.2.2, .val tS some_1, .val tR a_43, .un, .un, .val tS word_here_31, .val tI at_34, .val tI first_37, .un, .un, .un]) (fun z_45 : (List Int × List Str) => [⟨a.1, cL tI z_45.1⟩, ⟨a_43, cL tS z_45.2⟩]) ?h197 ?k198
                       case h197 =>
                        intro R_46
                        refine' sk_if1E (tk_cmp op_eq r2_eqI (ek_o1 0 g_draw.F sl1 hr g_draw.m g_draw.k g_draw.b (pk_var (i := 0) rfl) (PAK.ak (pa_1 pk_int)) (fun _ => rfl)) (fun _ => (PK.ek pk_int))) ?a199 ?b200
                        case a199 =>
                         intro y_47
                         refine' sk_name 0 rfl ?k201
                         case k201 =>
                          intro w_49
                          refine' sk_st (ρ2 := [.val tR a.1, .val tI a.2.2, .val tS some_1, .val tR a_43, .un, .un, .val tS word_here_31, .val tI at_34, .val tI first_37, .un, .un, .un]) (cs2 := [⟨a.1, cL tI w_49⟩, ⟨a_43, cL tS found_44⟩]) rfl rfl ?k202
                          case k202 =>
                           refine' sk_set (i := 9) (by exact sc.nd) (pk_op op_add_str r2_addS (pk_var (i := 6) rfl) (pk_slS pk_str (po_1 (PV.k (pv_cb call_len_str bs.m_len bs.b_len u_lenS (PK.v (pk_var (i := 6) rfl))))) po_0)) ?k203
                           case k203 =>
                            intro long_50
                            refine' sk_st (ρ2 := [.val tR a.1, .val tI a.2.2, .val tS some_1, .val tR a_43, .un, .un, .val tS word_here_31, .val tI at_34, .val tI first_37, .val tS long_50, .un, .un]) (cs2 := [⟨a.1, cL tI w_49⟩, ⟨a_43, cL tS found_44⟩]) rfl rfl ?k204
                            case k204 =>
                             refine' sk_seq (sk_if1 (pt_nin fS (pk_var (i := 9) rfl) (PV.q (PK.own 1 (pk_var (i := 3) rfl) rfl))) ?a205 ?b206)
                             case a205 =>
                              refine' sk_setIx 1 (PK.ek (pk_var (i := 9) rfl)) (fun _ => (pk_var (i := 3) rfl)) (fun _ => pk_int) (fun _ => rfl) ?k207
                              case k207 =>
                               intro y_51 w_52
                               refine' sk_st (ρ2 := [.val tR a.1, .val tI a.2.2, .val tS some_1, .val tR a_43, .un, .un, .val tS word_here_31, .val tI at_34, .val tI first_37, .val tS long_50, .un, .un]) (cs2 := [⟨a.1, cL tI w_49⟩, ⟨a_43, cL tS w_52⟩]) rfl rfl ?k208
                               case k208 =>
                                refine' sk_nilX rfl ?k209
                                case k209 =>
                                 exact sk_midX (z := (_, _)) rfl (.same (.same (.same (.same (.same (.same (.same (.same (.same (.un (.same (.same .nil)))))))))))) rfl
                             case b206 =>
                              refine' sk_nilX rfl ?k210
                              case k210 =>
                               exact sk_midX (z := (_, _)) rfl (.same (.same (.same (.same (.same (.same (.same (.same (.same (.un (.same (.same .nil)))))))))))) rfl
                        case b200 =>
                         intro y_48
                         refine' sk_name 0 rfl ?k211
                         case k211 =>
                          intro w_53
                          refine' sk_st (ρ2 := [.val tR a.1, .val tI a.2.2, .val tS some_1, .val tR a_43, .un, .un, .val tS word_here_31, .val tI at_34, .val tI first_37, .un, .un, .un]) (cs2 := [⟨a.1, cL tI w_53⟩, ⟨a_43, cL tS found_44⟩]) rfl rfl ?k212
                          case k212 =>
                           exact sk_midX (z := (_, _)) rfl (.same (.same (.same (.same (.same (.same (.same (.same (.same (.same (.same (.same .nil)))))))))))) rfl
                       case k198 =>
                        intro z_45
                        refine' sk_freeze 1 3 rfl rfl rfl (Nat.le_of_ble_eq_true rfl) ?k213
                        case k213 =>
                         refine' sk_st (ρ2 := [.val tR a.1, .val tI a.2.2, .val tS some_1, .val (tL tS) z_45.2, .un, .un, .val tS word_here_31, .val tI at_34, .val tI first_37, .un, .un, .un]) (cs2 := [⟨a.1, cL tI z_45.1⟩]) rfl rfl ?k214
                         case k214 =>
                          exact sk_retO (pk_var (i := 3) rfl) rfl
  case vc =>
   intro h
   simp only [true_and, and_true, yes1, yes2]
   obtain ⟨l, fl, n⟩ := a
   obtain ⟨⟨hf, n0, n1⟩, hφ⟩ := h
   have hf : Fl fl := hf
   have n0 : 1 ≤ n := n0
   have n1 : n ≤ 8 := n1
   try dsimp only at hφ
   try dsimp only
   intro z hz
   have hz : z = abc := hz
   rw [hz]
   have al : abc.length ≤ sizeLine := by rw [abc_len, sizeLine_eq]; decide
   -- the letters of a word
   have word : ∀ (m : Int) (fl0 : List Int), 0 ≤ m → m ≤ 100 → Fl fl0 → ∀ Φ : List Str → List Int → Prop, (∀ acc w, Fl w → (acc.length : Int) = m → (∀ s ∈ acc, s.length = 1 ∧ Low s) → Φ acc w) →
     ∃ I : Nat → List Str → List Int → Prop, I 0 [] fl0 ∧ (∀ (i : Nat) (acc : List Str) (z_3 : List Int) (x : Int), (rng 0 m)[i]? = some x → I i acc z_3 →
       (True → pre_draw z_3 26 ∧ ∀ (r : Int) (w : List Int), post_draw z_3 26 r w → abc.length ≤ sizeLine ∧ IxOk (MD.signs abc) r ∧ I (i + 1) (acc ++ [pyIx (MD.signs abc) r]) w) ∧ (true = false → I (i + 1) acc z_3)) ∧
       ∀ (acc : List Str) (z_3 : List Int), I (rng 0 m).length acc z_3 → Φ acc z_3 := fun m fl0 m0 m1 hf0 Φ k => by
     refine ⟨fun i acc w => Fl w ∧ acc.length = i ∧ ∀ s ∈ acc, s.length = 1 ∧ Low s, ⟨hf0, rfl, fun s hs => (by cases hs)⟩, fun i acc w x hx ⟨i1, i2, i3⟩ => ⟨fun _ => ⟨⟨i1, by decide, by decide⟩, fun r w2 ⟨r0, r1, hw⟩ => ⟨al, ixok_abc r0 r1, hw, by rw [List.length_append, i2]; rfl, fun s hs => ?_⟩⟩, fun e => (by cases e)⟩, fun acc w ⟨i1, i2, i3⟩ => k acc w i1 (by rw [rng_length] at i2; omega) i3⟩
     rcases List.mem_append.mp hs with h | h
     · exact i3 s h
     · rw [List.mem_singleton.mp h, pyIx_abc r0 r1]
       exact ⟨len_sgn _, low_sgn (by omega)⟩
   refine ⟨⟨hf, by decide, by decide⟩, fun r w ⟨r0, r1, f1⟩ => ⟨fun _ w1 e1 _ found ef => ?_, fun _ w1 e1 => ?_⟩⟩
   · rw [e1, ef]
     refine ⟨⟨by omega, by omega⟩, fun i z => Fl z.1 ∧ z.2.length = i ∧ z.2.Nodup ∧ ∀ s ∈ z.2, Word s, ⟨f1, rfl, List.nodup_nil, fun s hs => (by cases hs)⟩, fun i z x hx ⟨i1, i2, i3, i4⟩ => ?_, fun z ⟨i1, i2, i3, i4⟩ => ?_⟩
     · obtain ⟨_, hi⟩ := rng_get hx
       refine ⟨⟨i1, by decide, by decide⟩, fun q w2 ⟨q0, q1, f2⟩ => ⟨by omega, by omega, ?_⟩⟩
       refine word (1 + q) w2 (by omega) (by omega) f2 _ fun acc w3 f3 hl hs => ?_
       obtain ⟨j1, j2⟩ := join_nil_len hs
       have hw : Word (Str.join "" acc) := ⟨by rw [j1]; omega, by rw [j1]; omega, j2⟩
       refine ⟨by rw [sum_len hs]; show acc.length + acc.length * 0 ≤ _; omega, fun nm en w4 e4 => ?_⟩
       rw [e4]
       have hwn : Word nm := by rw [en]; exact hw
       refine ⟨fun y => Word y ∧ y ∉ z.2, ⟨fun e => ⟨al, ?_⟩, fun e => ⟨hwn, of_decide_eq_false e⟩⟩, fun y ⟨y1, y2⟩ => ⟨by rw [sizeLine_eq]; omega, fun z5 e5 w5 f5 => ?_⟩⟩
       · refine ⟨fun j acc _ => acc = ((MD.signs abc).take j).filter fun d => !decide (d ∈ z.2), rfl, fun j acc _ d hd hI => ⟨fun e => ?_, fun e => ?_⟩, fun acc _ hI => ?_⟩
         · dsimp only at hI ⊢; rw [filt_yes hd e, hI]
         · dsimp only at hI ⊢; rw [filt_no hd e, hI]
         · dsimp only at hI
           rw [List.take_length] at hI
           obtain ⟨s, s1, s2⟩ := free_letter (found := z.2) (by omega)
           have hp : 0 < acc.length := List.length_pos_of_mem (a := s) (by rw [hI]; exact List.mem_filter.mpr ⟨s1, by simpa using s2⟩)
           refine ⟨⟨by omega, by omega⟩, fun y ey => ?_⟩
           have hm : y ∈ acc := by rw [ey]; exact pyIx_mem (by omega) (by omega)
           rw [hI] at hm
           obtain ⟨m1, m2⟩ := List.mem_filter.mp hm
           refine ⟨?_, by simpa using m2⟩
           rw [signs_abc] at m1
           obtain ⟨c, hc, rfl⟩ := List.mem_map.mp m1
           exact sgn_word (List.mem_range.mp hc)
       · rw [f5, e5]
         refine ⟨f3, by rw [List.length_append, i2]; rfl, List.nodup_append.mpr ⟨i3, by simp, fun u hu v hv e => ?_⟩, fun s hs => ?_⟩
         · rw [List.mem_singleton.mp hv] at e
           exact y2 (e ▸ hu)
         · rcases List.mem_append.mp hs with h | h
           · exact i4 s h
           · rw [List.mem_singleton.mp h]; exact y1
     · rw [rng_length] at i2
       exact hφ _ _ ⟨⟨by omega, i3, i4⟩, i1⟩
   · rw [e1]
     refine ⟨⟨f1, by decide, by decide⟩, fun q w2 ⟨q0, q1, f2⟩ => ⟨by omega, by omega, ?_⟩⟩
     refine word q w2 q0 (by omega) f2 _ fun acc w3 f3 hl hs => ?_
     obtain ⟨j1, j2⟩ := join_nil_len hs
     refine ⟨by rw [sum_len hs]; show acc.length + acc.length * 0 ≤ _; omega, fun wd ewd w4 e4 => ?_⟩
     rw [e4]
     have wl : wd.length ≤ 7 := by rw [ewd, j1]; omega
     have wlow : Low wd := by rw [ewd]; exact j2
     refine ⟨by rw [sizeLine_eq]; omega, ⟨f3, by omega, by omega⟩, fun at0 w5 ⟨a0, a1, f5⟩ at1 ea w6 e6 => ?_⟩
     rw [e6]
     refine ⟨⟨f5, by decide, by decide⟩, fun ft w7 ⟨t0, t1, f7⟩ ft1 ef w8 e8 => ?_⟩
     obtain ⟨na, rfl⟩ : ∃ na : Nat, at1 = (na : Int) := ⟨at1.toNat, by omega⟩
     have hna : na ≤ wd.length := by omega
     have t0' : 0 ≤ ft1 := by omega
     have mk : ∀ k : Int, 0 ≤ k → Word (cutS wd none (some (na : Int)) ++ pyIx (MD.signs abc) ((ft1 + 7 * k) % 26) ++ cutS wd (some (na : Int)) none) ∧ IxOk (MD.signs abc) ((ft1 + 7 * k) % 26) ∧ pyIx (MD.signs abc) ((ft1 + 7 * k) % 26) = sgn (97 + ((ft1 + 7 * k) % 26).toNat) := fun k k0 => by
       have m0 := Int.emod_nonneg (ft1 + 7 * k) (show (26 : Int) ≠ 0 by decide)
       have m1 := Int.emod_lt_of_pos (ft1 + 7 * k) (show (0 : Int) < 26 by decide)
       have e := pyIx_abc m0 m1
       refine ⟨?_, ixok_abc m0 m1, e⟩
       rw [e]
       refine ⟨?_, ?_, ins_low wlow (low_sgn (by omega)) hna⟩
       · rw [ins_len hna, len_sgn]; omega
       · rw [ins_len hna, len_sgn]; omega
     have cl : (cutS wd none (some (na : Int))).length ≤ 7 ∧ (cutS wd (some (na : Int)) none).length ≤ 7 := by
       have := str_len wd
       refine ⟨?_, ?_⟩
       · rw [str_len, cutS_to wd hna, List.length_take]; omega
       · rw [str_len, cutS_from wd hna, List.length_drop]; omega
     have wsz : wd.length ≤ sizeLine := by rw [sizeLine_eq]; omega
     refine ⟨⟨by omega, by omega⟩, fun i acc _ => acc.length = i ∧ acc.Nodup ∧ (∀ s ∈ acc, Word s) ∧ ∀ s ∈ acc, ∃ k : Nat, k < i ∧ s = cutS wd none (some (na : Int)) ++ pyIx (MD.signs abc) ((ft1 + 7 * (k : Int)) % 26) ++ cutS wd (some (na : Int)) none, ⟨rfl, List.nodup_nil, fun s hs => (by cases hs), fun s hs => (by cases hs)⟩, fun i acc _ x hx ⟨i1, i2, i3, i4⟩ => ⟨fun _ => ?_, fun e => (by cases e)⟩, fun acc _ ⟨i1, i2, i3, i4⟩ _ fd ef2 => ?_⟩
     · obtain ⟨ex, hi⟩ := rng_get hx
       have ex : x = (i : Int) := by omega
       subst ex
       obtain ⟨k1, k2, k3⟩ := mk (i : Int) (by omega)
       have l1 : (pyIx (MD.signs abc) ((ft1 + 7 * (i : Int)) % 26)).length = 1 := by rw [k3]; rfl
       refine ⟨⟨⟨wsz, ⟨⟨.inl ⟨by decide, by decide⟩, by decide⟩, al, k2⟩, by rw [sizeLine_eq]; omega⟩, wsz, by rw [app_len, sizeLine_eq]; omega⟩, by rw [List.length_append, i1]; rfl, List.nodup_append.mpr ⟨i2, by simp, fun u hu v hv e => ?_⟩, fun s hs => ?_, fun s hs => ?_⟩
       · rw [List.mem_singleton.mp hv] at e
         obtain ⟨k, hk, ek⟩ := i4 u hu
         rw [ek] at e
         have e2 := ins_inj hna e
         rw [(mk k (by omega)).2.2, k3] at e2
         have e3 := sgn_inj e2
         omega
       · rcases List.mem_append.mp hs with h | h
         · exact i3 s h
         · rw [List.mem_singleton.mp h]; exact k1
       · rcases List.mem_append.mp hs with h | h
         · obtain ⟨k, hk, ek⟩ := i4 s h
           exact ⟨k, by omega, ek⟩
         · exact ⟨i, by omega, List.mem_singleton.mp h⟩
     · rw [rng_length] at i1
       rw [ef2]
       obtain ⟨z1, z2⟩ := cutS_zs wl
       have zl : (Str.ofString "zzzzzzzz").length = 8 := by decide +kernel
       refine ⟨fun y => (y.2.length : Int) = n ∧ y.2.Nodup ∧ (∀ s ∈ y.2, Word s) ∧ Fl y.1, ⟨⟨by rw [e8]; exact f7, by decide, by decide⟩, fun q w ⟨_, _, g⟩ => ⟨fun _ w1 ew => ⟨⟨⟨wsz, by rw [zl, sizeLine_eq]; decide⟩, ?_⟩, fun lg elg => ⟨fun e => ⟨⟨by decide, by omega⟩, fun y ey => ?_⟩, fun _ => ?_⟩⟩, fun _ w1 ew => ?_⟩⟩, fun y ⟨y1, y2, y3, y4⟩ => hφ _ _ ⟨⟨y1, y2, y3⟩, y4⟩⟩
       · rw [sizeLine_eq]
         have : (cutS (Str.ofString "zzzzzzzz") (some (wd.length : Int)) none).length = 8 - wd.length := z1
         omega
       · rw [ew, ey]
         have nl : lg ∉ acc := by simpa using e
         refine ⟨by rw [List.length_set]; omega, nodup_set i2 nl, fun s hs => ?_, g⟩
         rcases List.mem_or_eq_of_mem_set hs with m | m
         · exact i3 s m
         · rw [m, elg]
           have z1' : (cutS (Str.ofString "zzzzzzzz") (some (wd.length : Int)) none).length = 8 - wd.length := z1
           refine ⟨by rw [app_len, z1']; omega, by rw [app_len, z1']; omega, low_app wlow z2⟩
       · rw [ew]
         exact ⟨by show (acc.length : Int) = n; omega, i2, i3, g⟩
       · rw [ew]
         exact ⟨by show (acc.length : Int) = n; omega, i2, i3, g⟩
abbrev s_Machine_init : Stmt := (inClass (topS 8) 0)
theorem sc_Machine_init : FnScope ["self", "letters", "table", "good", "told", "letter", "state", "steps", "goal"] ["self", "letters", "table", "good"] (defScope s_Machine_init) := ⟨rfl, rfl, rfl, by decide +kernel, rfl, by decide +kernel, by decide +kernel⟩
def c_Machine_init (K : PySem.W.Frag) (C_Machine : Addr) := Con.ini (K := K) C_Machine fd_Machine (fun x : ((List Str) × (List (List Int)) × (List Int)) => [.val (tL tS) x.1, .val (tL (tL tI)) x.2.1, .val (tL tI) x.2.2]) pre_Machine_init f_Machine_init (fun _ _ => False)
theorem ok_Machine_init (bs : Bs mg) {C_Machine : Addr} (cl_Machine : Cl_Machine K C_Machine) {f : Addr} {fd : FuncData} (F : Fun K "__init__" "Machine.__init__" s_Machine_init f fd) : FnOk P w K mg base (L2.CX P w) 2 f fd ["self", "letters", "table", "good"] (c_Machine_init K C_Machine).sp := by
  refine fn_con (c_Machine_init K C_Machine) F sc_Machine_init (fun _ => rfl) ?_
  intro cdv Ar outer s H E F0 a φ ε hr hp
  have hu := hu_of hr
  have sc := sc_Machine_init
  refine' SK.vc ?hh ?vc
  case hh =>
   refine' sk_setD kS tB (i := 4) (by exact sc.nd) nd_new ?k252
   case k252 =>
    intro a_1
    refine' sk_st (ρ2 := [.val tR a.1, .val (tL tS) a.2.1, .val (tL (tL tI)) a.2.2.1, .val (tL tI) a.2.2.2, .val tR a_1, .un, .un, .un, .un]) (cs2 := [⟨a.1, cI C_Machine []⟩, ⟨a_1, cD kS tB []⟩]) rfl rfl ?k253
    case k253 =>
     refine' sk_for (fun z_2 : List (Str × Bool) => [.val tR a.1, .val (tL tS) a.2.1, .val (tL (tL tI)) a.2.2.1, .val (tL tI) a.2.2.2, .val tR a_1, .un, .un, .un, .un]) (fun z_2 : List (Str × Bool) => [⟨a.1, cI C_Machine []⟩, ⟨a_1, cD kS tB z_2⟩]) _ hp rfl (ik_list (pk_var (i := 1) rfl)) (gk_name (i := 5) (by exact sc.nd)) (.same (.same (.same (.same (.same (.same (.same (.same (.same .nil))))))))) rfl ?b254 ?k255
     case b254 =>
      intro fl_6 hs_5 N_4 z_2 x_3
      refine' sk_st (ρ2 := [.val tR a.1, .val (tL tS) a.2.1, .val (tL (tL tI)) a.2.2.1, .val (tL tI) a.2.2.2, .val tR a_1, .val tS x_3, .un, .un, .un]) (cs2 := [⟨a.1, cI C_Machine []⟩, ⟨a_1, cD kS tB z_2⟩]) rfl rfl ?k256
      case k256 =>
       refine' sk_seq (sk_if1 (pt_din hu (pk_var (i := 5) rfl) (PK.ownD 1 (pk_var (i := 4) rfl) rfl)) ?a257 ?b258)
       case a257 =>
        exact sk_never
       case b258 =>
        refine' sk_nilX rfl ?k259
        case k259 =>
         refine' sk_dput 1 hu (PK.ek pk_bl) (fun _ => (pk_var (i := 4) rfl)) (fun _ => (pk_var (i := 5) rfl)) (fun _ => rfl) ?k260
         case k260 =>
          intro y_7 w_8
          refine' sk_st (ρ2 := [.val tR a.1, .val (tL tS) a.2.1, .val (tL (tL tI)) a.2.2.1, .val (tL tI) a.2.2.2, .val tR a_1, .val tS x_3, .un, .un, .un]) (cs2 := [⟨a.1, cI C_Machine []⟩, ⟨a_1, cD kS tB w_8⟩]) rfl rfl ?k261
          case k261 =>
           exact sk_midX (z := _) rfl (.same (.same (.same (.same (.same (.un (.same (.same (.same .nil))))))))) rfl
     case k255 =>
      intro z_2
      refine' sk_for (fun _ : Unit => [.val tR a.1, .val (tL tS) a.2.1, .val (tL (tL tI)) a.2.2.1, .val (tL tI) a.2.2.2, .val tR a_1, .un, .un, .un, .un]) (fun _ : Unit => [⟨a.1, cI C_Machine []⟩, ⟨a_1, cD kS tB z_2⟩]) () hp rfl (ik_enum bs.m_enumerate (pk_var (i := 2) rfl)) (gk_tup rfl (gs_C (gk_name (i := 6) (by exact sc.nd)) (gs_1 (gk_name (i := 7) (by exact sc.nd)))) (tlC tl1)) (.same (.same (.same (.same (.same (.same (.same (.same (.same .nil))))))))) rfl ?b262 ?k263
      case b262 =>
       intro fl_13 hs_12 N_11 z_9 x_10
       refine' sk_st (ρ2 := [.val tR a.1, .val (tL tS) a.2.1, .val (tL (tL tI)) a.2.2.1, .val (tL tI) a.2.2.2, .val tR a_1, .un, .val tI x_10.1, .val (tL tI) x_10.2, .un]) (cs2 := [⟨a.1, cI C_Machine []⟩, ⟨a_1, cD kS tB z_2⟩]) rfl rfl ?k264
       case k264 =>
        refine' sk_for (fun _ : Unit => [.val tR a.1, .val (tL tS) a.2.1, .val (tL (tL tI)) a.2.2.1, .val (tL tI) a.2.2.2, .val tR a_1, .un, .val tI x_10.1, .val (tL tI) x_10.2, .un]) (fun _ : Unit => [⟨a.1, cI C_Machine []⟩, ⟨a_1, cD kS tB z_2⟩]) () hp rfl (ik_zipL bs.m_zip (pk_var (i := 1) rfl) (pk_var (i := 7) rfl)) (gk_tup rfl (gs_C (gk_name (i := 5) (by exact sc.nd)) (gs_1 (gk_name (i := 8) (by exact sc.nd)))) (tlC tl1)) (.same (.same (.same (.same (.same (.same (.same (.same (.same .nil))))))))) rfl ?b265 ?k266
        case b265 =>
         intro fl_18 hs_17 N_16 z_14 x_15
         refine' sk_st (ρ2 := [.val tR a.1, .val (tL tS) a.2.1, .val (tL (tL tI)) a.2.2.1, .val (tL tI) a.2.2.2, .val tR a_1, .val tS x_15.1, .val tI x_10.1, .val (tL tI) x_10.2, .val tI x_15.2]) (cs2 := [⟨a.1, cI C_Machine []⟩, ⟨a_1, cD kS tB z_2⟩]) rfl rfl ?k267
         case k267 =>
          refine' sk_seq (sk_if1 (PWK.pt (pw_or' (pt_cmp' op_lt r2_B0 (pk_var (i := 8) rfl) pk_int) (pw_or1' (pt_cmp' op_ge r2_B0 (pk_var (i := 8) rfl) (PV.k (pv_cb cr_lenQ bs.m_len bs.b_len u_len (PV.q (PK.l (pk_var (i := 2) rfl))))))))) ?a268 ?b269)
          case a268 =>
           exact sk_never
          case b269 =>
           refine' sk_nilX rfl ?k270
           case k270 =>
            exact sk_midX (z := ()) rfl (.same (.same (.same (.same (.same (.un (.same (.same (.un .nil))))))))) rfl
        case k266 =>
         intro z_14
         exact sk_midX (z := ()) rfl (.same (.same (.same (.same (.same (.same (.un (.un (.same .nil))))))))) rfl
      case k263 =>
       intro z_9
       refine' sk_for (fun _ : Unit => [.val tR a.1, .val (tL tS) a.2.1, .val (tL (tL tI)) a.2.2.1, .val (tL tI) a.2.2.2, .val tR a_1, .un, .un, .un, .un]) (fun _ : Unit => [⟨a.1, cI C_Machine []⟩, ⟨a_1, cD kS tB z_2⟩]) () hp rfl (ik_list (pk_var (i := 3) rfl)) (gk_name (i := 6) (by exact sc.nd)) (.same (.same (.same (.same (.same (.same (.same (.same (.same .nil))))))))) rfl ?b271 ?k272
       case b271 =>
        intro fl_23 hs_22 N_21 z_19 x_20
        refine' sk_st (ρ2 := [.val tR a.1, .val (tL tS) a.2.1, .val (tL (tL tI)) a.2.2.1, .val (tL tI) a.2.2.2, .val tR a_1, .un, .val tI x_20, .un, .un]) (cs2 := [⟨a.1, cI C_Machine []⟩, ⟨a_1, cD kS tB z_2⟩]) rfl rfl ?k273
        case k273 =>
         refine' sk_seq (sk_if1 (PWK.pt (pw_or' (pt_cmp' op_lt r2_B0 (pk_var (i := 6) rfl) pk_int) (pw_or1' (pt_cmp' op_ge r2_B0 (pk_var (i := 6) rfl) (PV.k (pv_cb cr_lenQ bs.m_len bs.b_len u_len (PV.q (PK.l (pk_var (i := 2) rfl))))))))) ?a274 ?b275)
         case a274 =>
          exact sk_never
         case b275 =>
          refine' sk_nilX rfl ?k276
          case k276 =>
           exact sk_midX (z := ()) rfl (.same (.same (.same (.same (.same (.same (.un (.same (.same .nil))))))))) rfl
       case k272 =>
        intro z_19
        refine' sk_fld (T := (tUF tS)) (fs := []) 0 cl_Machine.c cl_Machine.n_letters (PK.ek (PV.k (pv_ct call_tupF bs.m_tuple bs.b_tuple u_tupF (PV.lk (PK.l (pk_var (i := 1) rfl)))))) (fun _ => (pk_var (i := 0) rfl)) (fun _ => rfl) ?k277
        case k277 =>
         intro y_24 letters_25
         refine' sk_st (ρ2 := [.val tR a.1, .val (tL tS) a.2.1, .val (tL (tL tI)) a.2.2.1, .val (tL tI) a.2.2.2, .val tR a_1, .un, .un, .un, .un]) (cs2 := [⟨a.1, cI C_Machine [("letters", .val (tUF tS) letters_25)]⟩, ⟨a_1, cD kS tB z_2⟩]) rfl rfl ?k278
         case k278 =>
          refine' sk_fld (T := (tU (tU tI))) (fs := [("letters", .val (tUF tS) letters_25)]) 0 cl_Machine.c cl_Machine.n_table (EV.k (ev_ct call_tuple_of bs.m_tuple bs.b_tuple (fun _ => u_tupL) (EV.lk (NE.l (ne_lc rfl (by exact sc.nd) ?lc23 ?lc22 ?lc24))))) (fun _ => (pk_var (i := 0) rfl)) ?lc25 ?k283
          case lc23 =>
           exact blkOk_by (own := [("steps", 7)]) (N := ["self", "letters", "table", "good", "told", "letter", "state", "steps", "goal"]) (sc := defScope s_Machine_init) (by decide +kernel)
          case lc22 =>
           exact lc_k (own := [("steps", 7)]) (T := (tL tI)) (U := (tU tI)) (G := fun ρ x => (List.set ρ 7 (.val (tL tI) x))) (vs := [7]) (cs' := (fun _ : Unit => [⟨a.1, cI C_Machine [("letters", .val (tUF tS) letters_25)]⟩, ⟨a_1, cD kS tB z_2⟩])) (z0 := fun y => ()) (s1 := fun _ _ _ => ()) (s2 := fun _ _ _ _ => ()) (IK.ie (ik_list (pk_var (i := 2) rfl))) (fun _ => rfl) (by decide) (fun _ _ _ _ _ => (gk_name (i := 7) (by exact sc.nd))) (fun _ _ _ _ _ _ _ => ts_0) (fun _ _ _ _ _ _ _ _ => (PK.ek (PV.k (pv_ct call_tuple_of bs.m_tuple bs.b_tuple u_tupL (PV.lk (PK.l (pk_var (i := 7) rfl)))))))
          case lc24 =>
           exact fun _ => rfl
          case lc25 =>
           exact fun _ => rfl
          case k283 =>
           intro y_28 table_29
           refine' sk_st (ρ2 := [.val tR a.1, .val (tL tS) a.2.1, .val (tL (tL tI)) a.2.2.1, .val (tL tI) a.2.2.2, .val tR a_1, .un, .un, .un, .un]) (cs2 := [⟨a.1, cI C_Machine [("letters", .val (tUF tS) letters_25), ("table", .val (tU (tU tI)) table_29)]⟩, ⟨a_1, cD kS tB z_2⟩]) rfl rfl ?k284
           case k284 =>
            refine' sk_fld (T := (tU tI)) (fs := [("letters", .val (tUF tS) letters_25), ("table", .val (tU (tU tI)) table_29)]) 0 cl_Machine.c cl_Machine.n_good (PK.ek (PV.k (pv_ct call_tuple_of bs.m_tuple bs.b_tuple u_tupL (PV.lk (NK.l (nk_cb (cr_sortedSetO rfl) bs.m_sorted bs.b_sorted n_sortI1O (pv_ct (cr_setI rfl) bs.m_set bs.b_set u_setI (PV.lk (PK.l (pk_var (i := 3) rfl)))))))))) (fun _ => (pk_var (i := 0) rfl)) (fun _ => rfl) ?k285
            case k285 =>
             intro y_30 good_31
             refine' sk_st (ρ2 := [.val tR a.1, .val (tL tS) a.2.1, .val (tL (tL tI)) a.2.2.1, .val (tL tI) a.2.2.2, .val tR a_1, .un, .un, .un, .un]) (cs2 := [⟨a.1, cI C_Machine [("letters", .val (tUF tS) letters_25), ("table", .val (tU (tU tI)) table_29), ("good", .val (tU tI) good_31)]⟩, ⟨a_1, cD kS tB z_2⟩]) rfl rfl ?k286
             case k286 =>
              refine' sk_drop 1 ?k287
              case k287 =>
               refine' sk_st (ρ2 := [.val tR a.1, .val (tL tS) a.2.1, .val (tL (tL tI)) a.2.2.1, .val (tL tI) a.2.2.2, .val tR a_1, .un, .un, .un, .un]) (cs2 := [⟨a.1, cI C_Machine [("letters", .val (tUF tS) letters_25), ("table", .val (tU (tU tI)) table_29), ("good", .val (tU tI) good_31)]⟩]) rfl rfl ?k288
               case k288 =>
                exact sk_endI (_, _, _) rfl
  case vc =>
   intro h
   simp only [true_and, and_true, yes1, yes2]
   obtain ⟨p, ls, tab, good⟩ := a
   rcases h with ⟨⟨hT, hg⟩, hφ⟩ | ⟨_, hx, _⟩
   rotate_left
   · exact False.elim hx
   have hT : TabOk ls tab := hT
   have hg : GoodOk tab good := hg
   have hgl : good.length ≤ 64 := by
     have h1 : good.length ≤ (rng 0 (tab.length : Int)).length := by
       have e : good = (rng 0 (tab.length : Int)).filter fun k => decide (k ∈ good) := hg
       rw [e]
       exact List.length_filter_le _ _
     rw [rng_len] at h1
     exact Nat.le_trans h1 hT.few
   try dsimp only at hφ
   try dsimp only
   have hs := sizeLine_eq
   have h24 : tab.length ≤ 64 := hT.few
   have h6 : ls.length ≤ 7 := hT.l6
   intro _
   refine ⟨fun i z => z = (ls.take i).map fun l => (l, true), rfl, fun i z x hx hI => ?_, fun z _ => ⟨fun _ _ => True, trivial, fun i _ x hx _ => ⟨fun _ _ => True, trivial, fun j _ y hy _ => ?_, fun _ _ => trivial⟩, fun _ _ => ⟨fun _ _ => True, trivial, fun i _ x hx _ => ?_, fun _ _ z1 e1 => ⟨fun i acc _ => acc = tab.take i, rfl, fun i acc _ x hx hI => ⟨fun _ => (by dsimp only at hI ⊢; rw [take_step hx, hI]), fun e => (by cases e)⟩, fun acc _ hI z2 e2 => ⟨⟨by show good.length < 4000; omega, by show good.length < 4000; omega⟩, fun z3 e3 => hφ _ ?_⟩⟩⟩⟩⟩
   · dsimp only at hI
     have hn := nodup_take hT.nd hx
     have hx : ls[i]? = some x := hx
     have hi : i < ls.length := (List.getElem?_eq_some_iff.mp hx).1
     have e : z.map (·.1) = ls.take i := by rw [hI, List.map_map]; exact List.map_id _
     refine ⟨fun q => ?_, fun _ => ⟨by rw [hI, List.length_map, List.length_take]; omega, fun z1 e1 => ?_⟩⟩
     · rw [dget_none (by rw [e]; exact hn)] at q
       cases q
     · show z1 = (ls.take (i + 1)).map fun l => (l, true)
       rw [e1, dput_new (by rw [e]; exact hn), hI, map_step _ hx]
   · obtain ⟨e1, e2⟩ := enumF_get hx
     have hm := List.of_mem_zip (get_mem hy)
     have hgo : 0 ≤ y.2 ∧ y.2 < (tab.length : Int) := hT.goal x.2 (get_mem e2) y.2 hm.2
     refine ⟨fun _ => trivial, fun q => ?_, fun _ => trivial⟩
     rw [decide_eq_false (by omega), decide_eq_false (by omega)] at q
     cases q
   · have hgo : 0 ≤ x ∧ x < (tab.length : Int) := good_in hg (get_mem hx)
     refine ⟨fun _ => trivial, fun q => ?_, fun _ => trivial⟩
     rw [decide_eq_false (by omega), decide_eq_false (by omega)] at q
     cases q
   · dsimp only at hI
     rw [List.take_length] at hI
     show (z1, z2, z3) = (ls, tab, good)
     rw [e1, e2, e3, hI, good_sort hg]
abbrev s_Machine_initU : Stmt := (inClass (topS 8) 0)
theorem sc_Machine_initU : FnScope ["self", "letters", "table", "good", "told", "letter", "state", "steps", "goal"] ["self", "letters", "table", "good"] (defScope s_Machine_initU) := ⟨rfl, rfl, rfl, by decide +kernel, rfl, by decide +kernel, by decide +kernel⟩
def c_Machine_initU (K : PySem.W.Frag) (C_Machine : Addr) := Con.ini (K := K) C_Machine fd_Machine (fun x : ((List Str) × (List (List Int)) × (List Int)) => [.val (tL tS) x.1, .val (tL (tU tI)) x.2.1, .val (tL tI) x.2.2]) pre_Machine_init f_Machine_init (fun _ _ => False)
theorem ok_Machine_initU (bs : Bs mg) {C_Machine : Addr} (cl_Machine : Cl_Machine K C_Machine) {f : Addr} {fd : FuncData} (F : Fun K "__init__" "Machine.__init__" s_Machine_initU f fd) : FnOk P w K mg base (L2.CX P w) 2 f fd ["self", "letters", "table", "good"] (c_Machine_initU K C_Machine).sp := by
  refine fn_con (c_Machine_initU K C_Machine) F sc_Machine_initU (fun _ => rfl) ?_
  intro cdv Ar outer s H E F0 a φ ε hr hp
  have hu := hu_of hr
  have sc := sc_Machine_initU
  refine' SK.vc ?hh ?vc
  case hh =>
   refine' sk_setD kS tB (i := 4) (by exact sc.nd) nd_new ?k326
   case k326 =>
    intro a_1
    refine' sk_st (ρ2 := [.val tR a.1, .val (tL tS) a.2.1, .val (tL (tU tI)) a.2.2.1, .val (tL tI) a.2.2.2, .val tR a_1, .un, .un, .un, .un]) (cs2 := [⟨a.1, cI C_Machine []⟩, ⟨a_1, cD kS tB []⟩]) rfl rfl ?k327
    case k327 =>
     refine' sk_for (fun z_2 : List (Str × Bool) => [.val tR a.1, .val (tL tS) a.2.1, .val (tL (tU tI)) a.2.2.1, .val (tL tI) a.2.2.2, .val tR a_1, .un, .un, .un, .un]) (fun z_2 : List (Str × Bool) => [⟨a.1, cI C_Machine []⟩, ⟨a_1, cD kS tB z_2⟩]) _ hp rfl (ik_list (pk_var (i := 1) rfl)) (gk_name (i := 5) (by exact sc.nd)) (.same (.same (.same (.same (.same (.same (.same (.same (.same .nil))))))))) rfl ?b328 ?k329
     case b328 =>
      intro fl_6 hs_5 N_4 z_2 x_3
      refine' sk_st (ρ2 := [.val tR a.1, .val (tL tS) a.2.1, .val (tL (tU tI)) a.2.2.1, .val (tL tI) a.2.2.2, .val tR a_1, .val tS x_3, .un, .un, .un]) (cs2 := [⟨a.1, cI C_Machine []⟩, ⟨a_1, cD kS tB z_2⟩]) rfl rfl ?k330
      case k330 =>
       refine' sk_seq (sk_if1 (pt_din hu (pk_var (i := 5) rfl) (PK.ownD 1 (pk_var (i := 4) rfl) rfl)) ?a331 ?b332)
       case a331 =>
        exact sk_never
       case b332 =>
        refine' sk_nilX rfl ?k333
        case k333 =>
         refine' sk_dput 1 hu (PK.ek pk_bl) (fun _ => (pk_var (i := 4) rfl)) (fun _ => (pk_var (i := 5) rfl)) (fun _ => rfl) ?k334
         case k334 =>
          intro y_7 w_8
          refine' sk_st (ρ2 := [.val tR a.1, .val (tL tS) a.2.1, .val (tL (tU tI)) a.2.2.1, .val (tL tI) a.2.2.2, .val tR a_1, .val tS x_3, .un, .un, .un]) (cs2 := [⟨a.1, cI C_Machine []⟩, ⟨a_1, cD kS tB w_8⟩]) rfl rfl ?k335
          case k335 =>
           exact sk_midX (z := _) rfl (.same (.same (.same (.same (.same (.un (.same (.same (.same .nil))))))))) rfl
     case k329 =>
      intro z_2
      refine' sk_for (fun _ : Unit => [.val tR a.1, .val (tL tS) a.2.1, .val (tL (tU tI)) a.2.2.1, .val (tL tI) a.2.2.2, .val tR a_1, .un, .un, .un, .un]) (fun _ : Unit => [⟨a.1, cI C_Machine []⟩, ⟨a_1, cD kS tB z_2⟩]) () hp rfl (ik_enum bs.m_enumerate (pk_var (i := 2) rfl)) (gk_tup rfl (gs_C (gk_name (i := 6) (by exact sc.nd)) (gs_1 (gk_name (i := 7) (by exact sc.nd)))) (tlC tl1)) (.same (.same (.same (.same (.same (.same (.same (.same (.same .nil))))))))) rfl ?b336 ?k337
      case b336 =>
       intro fl_13 hs_12 N_11 z_9 x_10
       refine' sk_st (ρ2 := [.val tR a.1, .val (tL tS) a.2.1, .val (tL (tU tI)) a.2.2.1, .val (tL tI) a.2.2.2, .val tR a_1, .un, .val tI x_10.1, .val (tU tI) x_10.2, .un]) (cs2 := [⟨a.1, cI C_Machine []⟩, ⟨a_1, cD kS tB z_2⟩]) rfl rfl ?k338
       case k338 =>
        refine' sk_for (fun _ : Unit => [.val tR a.1, .val (tL tS) a.2.1, .val (tL (tU tI)) a.2.2.1, .val (tL tI) a.2.2.2, .val tR a_1, .un, .val tI x_10.1, .val (tU tI) x_10.2, .un]) (fun _ : Unit => [⟨a.1, cI C_Machine []⟩, ⟨a_1, cD kS tB z_2⟩]) () hp rfl (ik_zip2 true false bs.m_zip sq_L sq_U (pk_var (i := 1) rfl) (pk_var (i := 7) rfl)) (gk_tup rfl (gs_C (gk_name (i := 5) (by exact sc.nd)) (gs_1 (gk_name (i := 8) (by exact sc.nd)))) (tlC tl1)) (.same (.same (.same (.same (.same (.same (.same (.same (.same .nil))))))))) rfl ?b339 ?k340
        case b339 =>
         intro fl_18 hs_17 N_16 z_14 x_15
         refine' sk_st (ρ2 := [.val tR a.1, .val (tL tS) a.2.1, .val (tL (tU tI)) a.2.2.1, .val (tL tI) a.2.2.2, .val tR a_1, .val tS x_15.1, .val tI x_10.1, .val (tU tI) x_10.2, .val tI x_15.2]) (cs2 := [⟨a.1, cI C_Machine []⟩, ⟨a_1, cD kS tB z_2⟩]) rfl rfl ?k341
         case k341 =>
          refine' sk_seq (sk_if1 (PWK.pt (pw_or' (pt_cmp' op_lt r2_B0 (pk_var (i := 8) rfl) pk_int) (pw_or1' (pt_cmp' op_ge r2_B0 (pk_var (i := 8) rfl) (PV.k (pv_cb cr_lenQ bs.m_len bs.b_len u_len (PV.q (PK.l (pk_var (i := 2) rfl))))))))) ?a342 ?b343)
          case a342 =>
           exact sk_never
          case b343 =>
           refine' sk_nilX rfl ?k344
           case k344 =>
            exact sk_midX (z := ()) rfl (.same (.same (.same (.same (.same (.un (.same (.same (.un .nil))))))))) rfl
        case k340 =>
         intro z_14
         exact sk_midX (z := ()) rfl (.same (.same (.same (.same (.same (.same (.un (.un (.same .nil))))))))) rfl
      case k337 =>
       intro z_9
       refine' sk_for (fun _ : Unit => [.val tR a.1, .val (tL tS) a.2.1, .val (tL (tU tI)) a.2.2.1, .val (tL tI) a.2.2.2, .val tR a_1, .un, .un, .un, .un]) (fun _ : Unit => [⟨a.1, cI C_Machine []⟩, ⟨a_1, cD kS tB z_2⟩]) () hp rfl (ik_list (pk_var (i := 3) rfl)) (gk_name (i := 6) (by exact sc.nd)) (.same (.same (.same (.same (.same (.same (.same (.same (.same .nil))))))))) rfl ?b345 ?k346
       case b345 =>
        intro fl_23 hs_22 N_21 z_19 x_20
        refine' sk_st (ρ2 := [.val tR a.1, .val (tL tS) a.2.1, .val (tL (tU tI)) a.2.2.1, .val (tL tI) a.2.2.2, .val tR a_1, .un, .val tI x_20, .un, .un]) (cs2 := [⟨a.1, cI C_Machine []⟩, ⟨a_1, cD kS tB z_2⟩]) rfl rfl ?k347
        case k347 =>
         refine' sk_seq (sk_if1 (PWK.pt (pw_or' (pt_cmp' op_lt r2_B0 (pk_var (i := 6) rfl) pk_int) (pw_or1' (pt_cmp' op_ge r2_B0 (pk_var (i := 6) rfl) (PV.k (pv_cb cr_lenQ bs.m_len bs.b_len u_len (PV.q (PK.l (pk_var (i := 2) rfl))))))))) ?a348 ?b349)
         case a348 =>
          exact sk_never
         case b349 =>
          refine' sk_nilX rfl ?k350
          case k350 =>
           exact sk_midX (z := ()) rfl (.same (.same (.same (.same (.same (.same (.un (.same (.same .nil))))))))) rfl
       case k346 =>
        intro z_19
        refine' sk_fld (T := (tUF tS)) (fs := []) 0 cl_Machine.c cl_Machine.n_letters (PK.ek (PV.k (pv_ct call_tupF bs.m_tuple bs.b_tuple u_tupF (PV.lk (PK.l (pk_var (i := 1) rfl)))))) (fun _ => (pk_var (i := 0) rfl)) (fun _ => rfl) ?k351
        case k351 =>
         intro y_24 letters_25
         refine' sk_st (ρ2 := [.val tR a.1, .val (tL tS) a.2.1, .val (tL (tU tI)) a.2.2.1, .val (tL tI) a.2.2.2, .val tR a_1, .un, .un, .un, .un]) (cs2 := [⟨a.1, cI C_Machine [("letters", .val (tUF tS) letters_25)]⟩, ⟨a_1, cD kS tB z_2⟩]) rfl rfl ?k352
         case k352 =>
          refine' sk_fld (T := (tU (tU tI))) (fs := [("letters", .val (tUF tS) letters_25)]) 0 cl_Machine.c cl_Machine.n_table (EV.k (ev_ct call_tuple_of bs.m_tuple bs.b_tuple (fun _ => u_tupL) (EV.lk (NE.l (ne_lc rfl (by exact sc.nd) ?lc27 ?lc26 ?lc28))))) (fun _ => (pk_var (i := 0) rfl)) ?lc29 ?k357
          case lc27 =>
           exact blkOk_by (own := [("steps", 7)]) (N := ["self", "letters", "table", "good", "told", "letter", "state", "steps", "goal"]) (sc := defScope s_Machine_initU) (by decide +kernel)
          case lc26 =>
           exact lc_k (own := [("steps", 7)]) (T := (tU tI)) (U := (tU tI)) (G := fun ρ x => (List.set ρ 7 (.val (tU tI) x))) (vs := [7]) (cs' := (fun _ : Unit => [⟨a.1, cI C_Machine [("letters", .val (tUF tS) letters_25)]⟩, ⟨a_1, cD kS tB z_2⟩])) (z0 := fun y => ()) (s1 := fun _ _ _ => ()) (s2 := fun _ _ _ _ => ()) (IK.ie (ik_list (pk_var (i := 2) rfl))) (fun _ => rfl) (by decide) (fun _ _ _ _ _ => (gk_name (i := 7) (by exact sc.nd))) (fun _ _ _ _ _ _ _ => ts_0) (fun _ _ _ _ _ _ _ _ => (PK.ek (PV.k (pv_ct call_tuple_of bs.m_tuple bs.b_tuple u_tupU (PK.v (pk_var (i := 7) rfl))))))
          case lc28 =>
           exact fun _ => rfl
          case lc29 =>
           exact fun _ => rfl
          case k357 =>
           intro y_28 table_29
           refine' sk_st (ρ2 := [.val tR a.1, .val (tL tS) a.2.1, .val (tL (tU tI)) a.2.2.1, .val (tL tI) a.2.2.2, .val tR a_1, .un, .un, .un, .un]) (cs2 := [⟨a.1, cI C_Machine [("letters", .val (tUF tS) letters_25), ("table", .val (tU (tU tI)) table_29)]⟩, ⟨a_1, cD kS tB z_2⟩]) rfl rfl ?k358
           case k358 =>
            refine' sk_fld (T := (tU tI)) (fs := [("letters", .val (tUF tS) letters_25), ("table", .val (tU (tU tI)) table_29)]) 0 cl_Machine.c cl_Machine.n_good (PK.ek (PV.k (pv_ct call_tuple_of bs.m_tuple bs.b_tuple u_tupL (PV.lk (NK.l (nk_cb (cr_sortedSetO rfl) bs.m_sorted bs.b_sorted n_sortI1O (pv_ct (cr_setI rfl) bs.m_set bs.b_set u_setI (PV.lk (PK.l (pk_var (i := 3) rfl)))))))))) (fun _ => (pk_var (i := 0) rfl)) (fun _ => rfl) ?k359
            case k359 =>
             intro y_30 good_31
             refine' sk_st (ρ2 := [.val tR a.1, .val (tL tS) a.2.1, .val (tL (tU tI)) a.2.2.1, .val (tL tI) a.2.2.2, .val tR a_1, .un, .un, .un, .un]) (cs2 := [⟨a.1, cI C_Machine [("letters", .val (tUF tS) letters_25), ("table", .val (tU (tU tI)) table_29), ("good", .val (tU tI) good_31)]⟩, ⟨a_1, cD kS tB z_2⟩]) rfl rfl ?k360
             case k360 =>
              refine' sk_drop 1 ?k361
              case k361 =>
               refine' sk_st (ρ2 := [.val tR a.1, .val (tL tS) a.2.1, .val (tL (tU tI)) a.2.2.1, .val (tL tI) a.2.2.2, .val tR a_1, .un, .un, .un, .un]) (cs2 := [⟨a.1, cI C_Machine [("letters", .val (tUF tS) letters_25), ("table", .val (tU (tU tI)) table_29), ("good", .val (tU tI) good_31)]⟩]) rfl rfl ?k362
               case k362 =>
                exact sk_endI (_, _, _) rfl
  case vc =>
   intro h
   simp only [true_and, and_true, yes1, yes2]
   obtain ⟨p, ls, tab, good⟩ := a
   rcases h with ⟨⟨hT, hg⟩, hφ⟩ | ⟨_, hx, _⟩
   rotate_left
   · exact False.elim hx
   have hT : TabOk ls tab := hT
   have hg : GoodOk tab good := hg
   have hgl : good.length ≤ 64 := by
     have h1 : good.length ≤ (rng 0 (tab.length : Int)).length := by
       have e : good = (rng 0 (tab.length : Int)).filter fun k => decide (k ∈ good) := hg
       rw [e]
       exact List.length_filter_le _ _
     rw [rng_len] at h1
     exact Nat.le_trans h1 hT.few
   try dsimp only at hφ
   try dsimp only
   have hs := sizeLine_eq
   have h24 : tab.length ≤ 64 := hT.few
   have h6 : ls.length ≤ 7 := hT.l6
   intro _
   refine ⟨fun i z => z = (ls.take i).map fun l => (l, true), rfl, fun i z x hx hI => ?_, fun z _ => ⟨fun _ _ => True, trivial, fun i _ x hx _ => ⟨fun _ _ => True, trivial, fun j _ y hy _ => ?_, fun _ _ => trivial⟩, fun _ _ => ⟨fun _ _ => True, trivial, fun i _ x hx _ => ?_, fun _ _ z1 e1 => ⟨fun i acc _ => acc = tab.take i, rfl, fun i acc _ x hx hI => ⟨fun _ => (by dsimp only at hI ⊢; rw [take_step hx, hI]), fun e => (by cases e)⟩, fun acc _ hI z2 e2 => ⟨⟨by show good.length < 4000; omega, by show good.length < 4000; omega⟩, fun z3 e3 => hφ _ ?_⟩⟩⟩⟩⟩
   · dsimp only at hI
     have hn := nodup_take hT.nd hx
     have hx : ls[i]? = some x := hx
     have hi : i < ls.length := (List.getElem?_eq_some_iff.mp hx).1
     have e : z.map (·.1) = ls.take i := by rw [hI, List.map_map]; exact List.map_id _
     refine ⟨fun q => ?_, fun _ => ⟨by rw [hI, List.length_map, List.length_take]; omega, fun z1 e1 => ?_⟩⟩
     · rw [dget_none (by rw [e]; exact hn)] at q
       cases q
     · show z1 = (ls.take (i + 1)).map fun l => (l, true)
       rw [e1, dput_new (by rw [e]; exact hn), hI, map_step _ hx]
   · obtain ⟨e1, e2⟩ := enumF_get hx
     have hm := List.of_mem_zip (get_mem hy)
     have hgo : 0 ≤ y.2 ∧ y.2 < (tab.length : Int) := hT.goal x.2 (get_mem e2) y.2 hm.2
     refine ⟨fun _ => trivial, fun q => ?_, fun _ => trivial⟩
     rw [decide_eq_false (by omega), decide_eq_false (by omega)] at q
     cases q
   · have hgo : 0 ≤ x ∧ x < (tab.length : Int) := good_in hg (get_mem hx)
     refine ⟨fun _ => trivial, fun q => ?_, fun _ => trivial⟩
     rw [decide_eq_false (by omega), decide_eq_false (by omega)] at q
     cases q
   · dsimp only at hI
     rw [List.take_length] at hI
     show (z1, z2, z3) = (ls, tab, good)
     rw [e1, e2, e3, hI, good_sort hg]
abbrev s_numberedB : Stmt := topS 10
theorem sc_numberedB : FnScope ["signs", "known", "sign"] ["signs"] (defScope s_numberedB) := ⟨rfl, rfl, rfl, by decide +kernel, rfl, by decide +kernel, by decide +kernel⟩
def c_numberedB (K : PySem.W.Frag) := Con.fp (K := K) (fun x : (List Bool) => [.val (tL tB) x]) (tL tI) pre_numbered post_numbered
theorem ok_numberedB (bs : Bs mg) {f : Addr} {fd : FuncData} (F : Fun K "numbered" "numbered" s_numberedB f fd) : FnOk P w K mg base (L2.CX P w) 1 f fd ["signs"] (c_numberedB K).sp := by
  refine fn_con (c_numberedB K) F sc_numberedB (fun _ => rfl) ?_
  intro cdv Ar outer s H E F0 a φ ε hr hp
  have hu := hu_of hr
  have sc := sc_numberedB
  refine' SK.vc ?hh ?vc
  case hh =>
   refine' sk_setDb (i := 1) (by exact sc.nd) ?k369
   case k369 =>
    intro a_1
    refine' sk_st (ρ2 := [.val (tL tB) a, .val tR a_1, .un]) (cs2 := [⟨a_1, cDb P w a_1 []⟩]) rfl rfl ?k370
    case k370 =>
     refine' sk_retPD ?lc33
     case lc33 =>
      refine' NE.ek (ne_lc rfl (by exact sc.nd) ?lc31 ?lc30 ?lc32)
      case lc31 =>
       exact blkOk_by (own := [("sign", 2)]) (N := ["signs", "known", "sign"]) (sc := defScope s_numberedB) (by decide +kernel)
      case lc30 =>
       exact lc_k (own := [("sign", 2)]) (T := tB) (U := tI) (G := fun ρ x => (List.set ρ 2 (.val tB x))) (vs := [2]) (cs' := (fun c_2 : List (Bool × Int) => [⟨a_1, cDb P w a_1 c_2⟩])) (z0 := fun y => _) (IK.ie (ik_list (pk_var (i := 0) rfl))) (fun _ => rfl) (by decide) (fun _ _ _ _ _ => (gk_name (i := 2) (by exact sc.nd))) (fun _ _ _ _ _ _ _ => ts_0) (fun _ _ _ _ _ _ _ _ => (ek_sdefB 0 (pk_var (i := 1) rfl) (pk_var (i := 2) rfl) (PV.k (pv_cb call_len_rawB bs.m_len bs.b_len u_lenDb (pv_ownDb 0 (pk_var (i := 1) rfl) rfl))) rfl))
      case lc32 =>
       exact fun _ => rfl
  case vc =>
   intro h
   simp only [true_and, and_true, yes1, yes2]
   obtain ⟨hl, hφ⟩ := h
   have hl : a.length ≤ 1000 := hl
   intro _
   refine ⟨fun i acc z => z = prs 0 (firsts (a.take i)) ∧ acc = (a.take i).map (numOf a), ⟨rfl, rfl⟩, fun i acc z x hx ⟨i1, i2⟩ => ⟨fun _ => ?_, fun e => (by cases e)⟩, fun acc z ⟨_, i2⟩ => hφ _ ?_⟩
   · obtain ⟨s1, s2⟩ := numbered_step hx
     subst i1
     have fl := firsts_len (a.take i)
     rw [List.length_take] at fl
     refine ⟨by rw [prs_len, sizeLine_eq]; omega, fun z1 e1 => ⟨e1.trans s2, ?_⟩⟩
     rw [s1, map_step _ hx, i2]
   · have i2 : acc = (a.take a.length).map (numOf a) := i2
     show acc = a.map (numOf a)
     rw [i2, List.take_length]
abbrev s_numberedS : Stmt := topS 10
theorem sc_numberedS : FnScope ["signs", "known", "sign"] ["signs"] (defScope s_numberedS) := ⟨rfl, rfl, rfl, by decide +kernel, rfl, by decide +kernel, by decide +kernel⟩
def c_numberedS (K : PySem.W.Frag) := Con.fp (K := K) (fun x : (List (Int × (List Int))) => [.val (tL (tT (tsC tI (ts1 (tU tI))))) x]) (tL tI) pre_numbered post_numbered
theorem ok_numberedS (bs : Bs mg) {f : Addr} {fd : FuncData} (F : Fun K "numbered" "numbered" s_numberedS f fd) : FnOk P w K mg base (L2.CX P w) 1 f fd ["signs"] (c_numberedS K).sp := by
  refine fn_con (c_numberedS K) F sc_numberedS (fun _ => rfl) ?_
  intro cdv Ar outer s H E F0 a φ ε hr hp
  have hu := hu_of hr
  have sc := sc_numberedS
  refine' SK.vc ?hh ?vc
  case hh =>
   refine' sk_setDn (i := 1) (by exact sc.nd) ?k381
   case k381 =>
    intro a_1
    refine' sk_st (ρ2 := [.val (tL (tT (tsC tI (ts1 (tU tI))))) a, .val tR a_1, .un]) (cs2 := [⟨a_1, cDn P w a_1 []⟩]) rfl rfl ?k382
    case k382 =>
     refine' sk_retPD ?lc37
     case lc37 =>
      refine' NE.ek (ne_lc rfl (by exact sc.nd) ?lc35 ?lc34 ?lc36)
      case lc35 =>
       exact blkOk_by (own := [("sign", 2)]) (N := ["signs", "known", "sign"]) (sc := defScope s_numberedS) (by decide +kernel)
      case lc34 =>
       exact lc_k (own := [("sign", 2)]) (T := (tT (tsC tI (ts1 (tU tI))))) (U := tI) (G := fun ρ x => (List.set ρ 2 (.val (tT (tsC tI (ts1 (tU tI)))) x))) (vs := [2]) (cs' := (fun c_2 : List (Sg × Int) => [⟨a_1, cDn P w a_1 c_2⟩])) (z0 := fun y => _) (IK.ie (ik_list (pk_var (i := 0) rfl))) (fun _ => rfl) (by decide) (fun _ _ _ _ _ => (gk_name (i := 2) (by exact sc.nd))) (fun _ _ _ _ _ _ _ => ts_0) (fun _ _ _ _ _ _ _ _ => (ek_sdef 0 hr (pk_var (i := 1) rfl) (pk_var (i := 2) rfl) (PV.k (pv_cb call_len_raw9 bs.m_len bs.b_len u_lenDn (PK.ownDn 0 (pk_var (i := 1) rfl) rfl))) rfl))
      case lc36 =>
       exact fun _ => rfl
  case vc =>
   intro h
   simp only [true_and, and_true, yes1, yes2]
   obtain ⟨hl, hφ⟩ := h
   have hl : a.length ≤ 1000 := hl
   intro _
   refine ⟨fun i acc z => z = prs 0 (firsts (a.take i)) ∧ acc = (a.take i).map (numOf a), ⟨rfl, rfl⟩, fun i acc z x hx ⟨i1, i2⟩ => ⟨fun _ => ?_, fun e => (by cases e)⟩, fun acc z ⟨_, i2⟩ => hφ _ ?_⟩
   · obtain ⟨s1, s2⟩ := numbered_step hx
     subst i1
     have fl := firsts_len (a.take i)
     rw [List.length_take] at fl
     refine ⟨by rw [prs_len, sizeLine_eq]; omega, fun z1 e1 => ⟨e1.trans s2, ?_⟩⟩
     rw [s1, map_step _ hx, i2]
   · have i2 : acc = (a.take a.length).map (numOf a) := i2
     show acc = a.map (numOf a)
     rw [i2, List.take_length]
abbrev s_classes : Stmt := topS 11
theorem sc_classes : FnScope ["machine", "found", "many", "state", "steps", "goal"] ["machine"] (defScope s_classes) := ⟨rfl, rfl, rfl, by decide +kernel, rfl, by decide +kernel, by decide +kernel⟩
def c_classes (K : PySem.W.Frag) (C_Machine : Addr) := Con.fp (K := K) (fun x : (List Str × List (List Int) × List Int) => [.val (ty_Machine C_Machine) x]) (tL tI) pre_classes post_classes
theorem ok_classes (bs : Bs mg) {C_Machine : Addr} (cl_Machine : Cl_Machine K C_Machine) {f_numberedB : Addr} {fd_numberedB : FuncData} (g_numberedB : Cal P w K mg base "numbered" 1 ["signs"] (c_numberedB K).sp f_numberedB fd_numberedB) {f_numberedS : Addr} {fd_numberedS : FuncData} (g_numberedS : Cal P w K mg base "numbered" 1 ["signs"] (c_numberedS K).sp f_numberedS fd_numberedS) {f : Addr} {fd : FuncData} (F : Fun K "classes" "classes" s_classes f fd) : FnOk P w K mg base (L2.CX P w) 2 f fd ["machine"] (c_classes K C_Machine).sp := by
  refine fn_con (c_classes K C_Machine) F sc_classes (fun _ => rfl) ?_
  intro cdv Ar outer s H E F0 a φ ε hr hp
  have hu := hu_of hr
  have sc := sc_classes
  refine' SK.vc ?hh ?vc
  case hh =>
   refine' sk_setE (i := 1) (by exact sc.nd) (ek_fp g_numberedB.F sl1 hr g_numberedB.m g_numberedB.k g_numberedB.b (ak_1 (NE.ek (ne_lc rfl (by exact sc.nd) ?lc45 ?lc44 ?lc46)))) ?k432
   case lc45 =>
    exact blkOk_by (own := [("state", 3)]) (N := ["machine", "found", "many", "state", "steps", "goal"]) (sc := defScope s_classes) (by decide +kernel)
   case lc44 =>
    refine' lc_k (own := [("state", 3)]) (T := tI) (U := tB) (G := fun ρ x => (List.set ρ 3 (.val tI x))) (vs := [3]) (cs' := (fun _ : Unit => [])) (z0 := fun y => ()) (s1 := fun _ _ _ => ()) (s2 := fun _ _ _ _ => ()) ?lc41 ?lc42 ?lc43 ?lc40 ?lc38 ?lc39
    case lc41 =>
     exact (IK.ie (ik_range1 bs.m_range (PV.k (pv_cb cr_lenQ bs.m_len bs.b_len u_len (PV.uq (PK.u (pk_fld cl_Machine.c cl_Machine.n_table (PK.ins (pk_var (i := 0) rfl)))))))))
    case lc42 =>
     exact fun _ => rfl
    case lc43 =>
     exact by decide
    case lc40 =>
     exact fun _ _ _ _ _ => (gk_name (i := 3) (by exact sc.nd))
    case lc38 =>
     exact fun _ _ _ _ _ _ _ => ts_0
    case lc39 =>
     exact fun _ _ _ _ _ _ _ _ => (PK.ek (pk_in fI (pk_var (i := 3) rfl) (PV.uq (PK.u (pk_fld cl_Machine.c cl_Machine.n_good (PK.ins (pk_var (i := 0) rfl)))))))
   case lc46 =>
    exact fun _ => rfl
   case k432 =>
    intro y_4 found_3
    refine' sk_st (ρ2 := [.val (ty_Machine C_Machine) a, .val (tL tI) found_3, .un, .un, .un, .un]) (cs2 := []) rfl rfl ?k439
    case k439 =>
     refine' sk_set (i := 2) (by exact sc.nd) pk_int ?k440
     case k440 =>
      intro many_5
      refine' sk_st (ρ2 := [.val (ty_Machine C_Machine) a, .val (tL tI) found_3, .val tI many_5, .un, .un, .un]) (cs2 := []) rfl rfl ?k441
      case k441 =>
       refine' sk_while (fun z_6 : ((List Int) × Int) => [.val (ty_Machine C_Machine) a, .val (tL tI) z_6.1, .val tI z_6.2, .un, .un, .un]) (fun z_6 : ((List Int) × Int) => []) (_, _) hp (.same (.same (.same (.same (.same (.same .nil)))))) rfl (fun z_6 => (pt_cmp' op_gt r2_B0 (pk_op op_add r2_I0 (PV.k (pv_cb (cr_max rfl) bs.m_max bs.b_max u_max (PV.lk (PK.l (pk_var (i := 1) rfl))))) pk_int) (pk_var (i := 2) rfl))) ?b442 ?k443
       case b442 =>
        intro fl_9 hs_8 N_7 z_6
        refine' sk_set (i := 2) (by exact sc.nd) (pk_op op_add r2_I0 (PV.k (pv_cb (cr_max rfl) bs.m_max bs.b_max u_max (PV.lk (PK.l (pk_var (i := 1) rfl))))) pk_int) ?k444
        case k444 =>
         intro many_10
         refine' sk_st (ρ2 := [.val (ty_Machine C_Machine) a, .val (tL tI) z_6.1, .val tI many_10, .un, .un, .un]) (cs2 := []) rfl rfl ?k445
         case k445 =>
          refine' sk_setE (i := 1) (by exact sc.nd) (ek_fp g_numberedS.F sl1 hr g_numberedS.m g_numberedS.k g_numberedS.b (ak_1 (NE.ek (ne_lc rfl (by exact sc.nd) ?lc77 ?lc76 ?lc78)))) ?k449
          case lc77 =>
           exact blkOk_by (own := [("state", 3), ("steps", 4)]) (N := ["machine", "found", "many", "state", "steps", "goal"]) (sc := defScope s_classes) (by decide +kernel)
          case lc76 =>
           refine' lc_k (own := [("state", 3), ("steps", 4)]) (T := (tT (tsC tI (ts1 (tU tI))))) (U := (tT (tsC tI (ts1 (tU tI))))) (G := fun ρ x => (List.set (List.set ρ 3 (.val tI x.1)) 4 (.val (tU tI) x.2))) (vs := [3, 4]) (cs' := (fun _ : Unit => [])) (z0 := fun y => ()) (υ := fun _ _ _ => (Unit × (List Int × Unit))) (s1 := fun _ _ _ => ()) (s2 := fun _ _ _ _ => ()) ?lc64 ?lc74 ?lc75 ?lc63 ?lc61 ?lc62
           case lc64 =>
            exact (IK.ie (ik_enumT bs.m_enumerate (pk_fld cl_Machine.c cl_Machine.n_table (PK.ins (pk_var (i := 0) rfl)))))
           case lc74 =>
            exact fun _ => rfl
           case lc75 =>
            exact by decide
           case lc63 =>
            exact fun _ _ _ _ _ => (gk_tup rfl (gs_C (gk_name (i := 3) (by exact sc.nd)) (gs_1 (gk_name (i := 4) (by exact sc.nd)))) (tlC tl1))
           case lc61 =>
            exact fun _ _ _ _ _ _ _ => ts_0
           case lc62 =>
            refine' fun _ _ _ _ _ _ _ _ => (ek_tup ?lc60 (lenC len1))
            case lc60 =>
             refine' ak_C (cs1 := fun _ => []) (cs2 := fun _ _ => []) ?lc57 ?lc59
             case lc57 =>
              exact PK.ek (pk_ixR (T := tI) (PV.lk (PK.l (pk_var (i := 1) rfl))) (pk_var (i := 3) rfl))
             case lc59 =>
              refine' fun _ => ?lc58
              case lc58 =>
               refine' ak_1 ?lc56
               case lc56 =>
                refine' EV.k (ev_ct call_tuple_of bs.m_tuple bs.b_tuple (fun _ => u_tupL) (EV.lk (NE.l (ne_lc rfl (by exact sc.nd) ?lc54 ?lc53 ?lc55))))
                case lc54 =>
                 exact blkIn_by (own := [("goal", 5)]) (N := ["machine", "found", "many", "state", "steps", "goal"]) (sc := defScope s_classes) rfl rfl (by decide +kernel)
                case lc53 =>
                 refine' lc_k (own := [("goal", 5)]) (T := tI) (U := tI) (G := fun ρ x => (List.set ρ 5 (.val tI x))) (vs := [5]) (cs' := (fun _ : Unit => [])) (z0 := fun y => ()) (s1 := fun _ _ _ => ()) (s2 := fun _ _ _ _ => ()) ?lc50 ?lc51 ?lc52 ?lc49 ?lc47 ?lc48
                 case lc50 =>
                  exact (IK.ie (ik_tup (pk_var (i := 4) rfl)))
                 case lc51 =>
                  exact fun _ => rfl
                 case lc52 =>
                  exact by decide
                 case lc49 =>
                  exact fun _ _ _ _ _ => (gk_name (i := 5) (by exact sc.nd))
                 case lc47 =>
                  exact fun _ _ _ _ _ _ _ => ts_0
                 case lc48 =>
                  exact fun _ _ _ _ _ _ _ _ => (PK.ek (pk_ixR (T := tI) (PV.lk (PK.l (pk_var (i := 1) rfl))) (pk_var (i := 5) rfl)))
                case lc55 =>
                 exact fun _ => rfl
          case lc78 =>
           exact fun _ => rfl
          case k449 =>
           intro y_18 found_17
           refine' sk_st (ρ2 := [.val (ty_Machine C_Machine) a, .val (tL tI) found_17, .val tI many_10, .un, .un, .un]) (cs2 := []) rfl rfl ?k470
           case k470 =>
            exact sk_midX (z := (_, _)) rfl (.same (.same (.same (.same (.same (.same .nil)))))) rfl
       case k443 =>
        intro z_6
        exact sk_retP (pk_var (i := 1) rfl)
  case vc =>
   intro h
   simp only [true_and, and_true, yes1, yes2]
   obtain ⟨ls, tab, good⟩ := a
   obtain ⟨⟨hM, hG⟩, hφ⟩ := h
   have hM : TabOk ls tab := hM
   have hT : TOk ls.length tab := tok_of hM
   have few : tab.length ≤ 64 := hM.few
   have hφ : ∀ r, ColA ls.length tab good r → φ r := fun r hr => hφ r hr
   try dsimp only
   have pos : 0 < tab.length := List.length_pos_iff.mpr hM.ne
   have nr : (rng 0 (tab.length : Int)).length = tab.length := rng_len _
   refine ⟨⟨by omega, by omega⟩, fun i acc _ => acc = ((rng 0 (tab.length : Int)).take i).map (fun x => decide (x ∈ good)), rfl, fun i acc _ x hx hI => ⟨fun _ => ?_, fun e => (by cases e)⟩, fun acc _ hI => ⟨?_, fun r hr z ez z1 ez1 => ?_⟩⟩
   · dsimp only at hI ⊢
     rw [map_step _ hx, hI]
   · dsimp only at hI
     show acc.length ≤ 1000
     rw [hI, List.length_map, List.take_length, nr]
     omega
   · dsimp only at hI
     rw [List.take_length] at hI
     have hr : r = acc.map (numOf acc) := hr
     have c0 : Col ls.length tab good 0 z := by
       rw [ez, hr, hI]
       exact col_of (by rw [List.length_map, nr]) (col_zero fun s t => by rw [decide_eq_decide])
     have n0 : Num z (firsts acc).length := by rw [ez, hr]; exact num_of acc
     have n0 : Num z (reps ls.length tab good 0).length := by rw [← c0.count n0]; exact n0
     have nen : ∀ {k : Nat} {cs : List Int}, Col ls.length tab good k cs → cs ≠ [] := fun h e => by
       have := h.len
       rw [e] at this
       simp at this
       omega
     refine ⟨fun n y => ∃ k, Col ls.length tab good k y.1 ∧ Num y.1 (reps ls.length tab good k).length ∧ ((k = 0 ∧ y.2 = 0) ∨ ∃ j, k = j + 1 ∧ y.2 = ((reps ls.length tab good j).length : Int)) ∧ (n : Int) + y.2 = (tab.length : Int) + 1 ∧ 0 ≤ y.2, ⟨tab.length + 1, 0, c0, n0, .inl ⟨rfl, ez1⟩, by show ((tab.length + 1 : Nat) : Int) + z1 = _; rw [ez1]; omega, by show 0 ≤ z1; omega⟩, fun n y ⟨k, c1, c2, c3, c4, c5⟩ => ⟨nen c1, fun e => ⟨nen c1, fun z2 ez2 => ?_⟩, fun e => hφ _ ?_⟩⟩
     · have mx := c2.max (nen c1)
       have rl := reps_le (m := ls.length) (tab := tab) (good := good) k
       have lt : y.2 < maxI 0 y.1 + 1 := of_decide_eq_true e
       refine ⟨fun i acc _ => acc = ((enumF tab).take i).map (fun x => (pyIx y.1 x.1, x.2.map (pyIx y.1))), rfl, fun i acc _ x hx hI => ⟨fun _ => ?_, fun e => (by cases e)⟩, fun acc _ hI => ⟨?_, fun r hr z3 ez3 => ?_⟩⟩
       · obtain ⟨e1, e2⟩ := enumF_get hx
         have hi := (List.getElem?_eq_some_iff.mp e2).1
         have hrow := hT.goal x.2 (get_mem e2)
         have lc := c1.len
         refine ⟨⟨by rw [e1, lc]; omega, by rw [e1, lc]; omega⟩, fun j acc1 _ => acc1 = (x.2.take j).map (pyIx y.1), rfl, fun j acc1 _ g hg hJ => ⟨fun _ => ⟨?_, ?_⟩, fun e => (by cases e)⟩, fun acc1 _ hJ => ?_⟩
         · have := hrow g (get_mem hg)
           have a1 := this.1
           have a2 := this.2
           exact ⟨by rw [lc]; omega, by rw [lc]; omega⟩
         · dsimp only at hJ ⊢
           rw [map_step _ hg, hJ]
         · dsimp only at hJ hI ⊢
           rw [List.take_length] at hJ
           rw [map_step _ hx, hI, hJ]
       · dsimp only at hI
         show acc.length ≤ 1000
         rw [hI, List.length_map, List.take_length, enumF_length]
         omega
       · dsimp only at hI
         rw [List.take_length] at hI
         have hr : r = acc.map (numOf acc) := hr
         have c' : Col ls.length tab good (k + 1) z3 := by
           rw [ez3, hr, hI]
           refine col_of (by rw [List.length_map, enumF_length]) fun s t hs ht => ?_
           rw [enumF_map hs, enumF_map ht, ← c1.next hT hs ht]
           exact Prod.mk.injEq .. ▸ Iff.rfl
         have n' : Num z3 (firsts acc).length := by rw [ez3, hr]; exact num_of acc
         have n' : Num z3 (reps ls.length tab good (k + 1)).length := by rw [← c'.count n']; exact n'
         refine ⟨(tab.length + 1 - z2.toNat), by omega, k + 1, c', n', .inr ⟨k, rfl, by show z2 = _; omega⟩, ?_, ?_⟩
         · show (((tab.length + 1 - z2.toNat : Nat) : Int)) + z2 = _
           omega
         · show 0 ≤ z2
           omega
     · have mx := c2.max (nen c1)
       have ge : ¬ y.2 < maxI 0 y.1 + 1 := of_decide_eq_false e
       rcases c3 with ⟨k0, y0⟩ | ⟨j, kj, yj⟩
       · have := reps_pos (m := ls.length) (good := good) k pos
         omega
       · subst kj
         exact c1.stays hT (by omega)
abbrev s_least : Stmt := topS 12
theorem sc_least : FnScope ["machine", "class_of", "number", "states", "table", "steps", "goal", "good", "at", "state"] ["machine"] (defScope s_least) := ⟨rfl, rfl, rfl, by decide +kernel, rfl, by decide +kernel, by decide +kernel⟩
def c_least (K : PySem.W.Frag) (C_Machine : Addr) := Con.fp (K := K) (fun x : (List Str × List (List Int) × List Int) => [.val (ty_Machine C_Machine) x]) (ty_Machine C_Machine) pre_least post_least
theorem ok_least (bs : Bs mg) {C_Machine : Addr} (cl_Machine : Cl_Machine K C_Machine) {f_Machine_init : Addr} {fd_Machine_init : FuncData} (g_Machine_init : MkC P w K mg base C_Machine "Machine" 2 ["self", "letters", "table", "good"] (c_Machine_init K C_Machine).sp f_Machine_init fd_Machine_init) {f_classes : Addr} {fd_classes : FuncData} (g_classes : Cal P w K mg base "classes" 2 ["machine"] (c_classes K C_Machine).sp f_classes fd_classes) {f : Addr} {fd : FuncData} (F : Fun K "least" "least" s_least f fd) : FnOk P w K mg base (L2.CX P w) 4 f fd ["machine"] (c_least K C_Machine).sp := by
  refine fn_con (c_least K C_Machine) F sc_least (fun _ => rfl) ?_
  intro cdv Ar outer s H E F0 a φ ε hr hp
  have hu := hu_of hr
  have sc := sc_least
  refine' SK.vc ?hh ?vc
  case hh =>
   refine' sk_setE (i := 1) (by exact sc.nd) (ek_fp g_classes.F sl1 (hr.mono (by decide)) g_classes.m g_classes.k g_classes.b (PAK.ak (pa_1 (pk_var (i := 0) rfl)))) ?k514
   case k514 =>
    intro y_2 class_of_1
    refine' sk_st (ρ2 := [.val (ty_Machine C_Machine) a, .val (tL tI) class_of_1, .un, .un, .un, .un, .un, .un, .un, .un]) (cs2 := []) rfl rfl ?k515
    case k515 =>
     refine' sk_setDisp kI (i := 2) (by exact sc.nd) (pk_ixR (T := tI) (PV.lk (PK.l (pk_var (i := 1) rfl))) pk_int) pk_int ?k516
     case k516 =>
      intro a_3 number_4
      refine' sk_st (ρ2 := [.val (ty_Machine C_Machine) a, .val (tL tI) class_of_1, .val tR a_3, .un, .un, .un, .un, .un, .un, .un]) (cs2 := [⟨a_3, cD kI tI number_4⟩]) rfl rfl ?k517
      case k517 =>
       refine' sk_setN (i := 3) (T := tI) (by exact sc.nd) (NK.ne (nk_lst (pl_C pk_int pl_0) (Nat.le_of_ble_eq_true rfl))) ?k518
       case k518 =>
        intro y_5 a_6 states_7
        refine' sk_st (ρ2 := [.val (ty_Machine C_Machine) a, .val (tL tI) class_of_1, .val tR a_3, .val tR a_6, .un, .un, .un, .un, .un, .un]) (cs2 := [⟨a_3, cD kI tI number_4⟩, ⟨a_6, cL tI states_7⟩]) rfl rfl ?k519
        case k519 =>
         refine' sk_setN (i := 4) (T := (tL tI)) (by exact sc.nd) (NK.ne (nk_lst (T := (tL tI)) (pl_0 (T := (tL tI))) (Nat.zero_le _))) ?k520
         case k520 =>
          intro y_8 a_9 table_10
          refine' sk_st (ρ2 := [.val (ty_Machine C_Machine) a, .val (tL tI) class_of_1, .val tR a_3, .val tR a_6, .val tR a_9, .un, .un, .un, .un, .un]) (cs2 := [⟨a_3, cD kI tI number_4⟩, ⟨a_6, cL tI states_7⟩, ⟨a_9, cL (tL tI) table_10⟩]) rfl rfl ?k521
          case k521 =>
           refine' sk_while (fun z_11 : (List (Int × Int) × List Int × List (List Int)) => [.val (ty_Machine C_Machine) a, .val (tL tI) class_of_1, .val tR a_3, .val tR a_6, .val tR a_9, .un, .un, .un, .un, .un]) (fun z_11 : (List (Int × Int) × List Int × List (List Int)) => [⟨a_3, cD kI tI z_11.1⟩, ⟨a_6, cL tI z_11.2.1⟩, ⟨a_9, cL (tL tI) z_11.2.2⟩]) (_, _, _) hp (.same (.same (.same (.same (.same (.same (.same (.same (.same (.same .nil)))))))))) rfl (fun z_11 => (pt_cmp' op_lt r2_B0 (PV.k (pv_cb cr_lenQ bs.m_len bs.b_len u_len (PV.q (PK.own 2 (pk_var (i := 4) rfl) rfl)))) (PV.k (pv_cb cr_lenQ bs.m_len bs.b_len u_len (PV.q (PK.own 1 (pk_var (i := 3) rfl) rfl)))))) ?b522 ?k523
           case b522 =>
            intro fl_14 hs_13 N_12 z_11
            refine' sk_setN (i := 5) (T := tI) (by exact sc.nd) (NK.ne (nk_lst (T := tI) (pl_0 (T := tI)) (Nat.zero_le _))) ?k524
            case k524 =>
             intro y_15 a_16 steps_17
             refine' sk_st (ρ2 := [.val (ty_Machine C_Machine) a, .val (tL tI) class_of_1, .val tR a_3, .val tR a_6, .val tR a_9, .val tR a_16, .un, .un, .un, .un]) (cs2 := [⟨a_3, cD kI tI z_11.1⟩, ⟨a_6, cL tI z_11.2.1⟩, ⟨a_9, cL (tL tI) z_11.2.2⟩, ⟨a_16, cL tI steps_17⟩]) rfl rfl ?k525
             case k525 =>
              refine' sk_for (fun z_18 : (List (Int × Int) × List Int × List Int) => [.val (ty_Machine C_Machine) a, .val (tL tI) class_of_1, .val tR a_3, .val tR a_6, .val tR a_9, .val tR a_16, .un, .un, .un, .un]) (fun z_18 : (List (Int × Int) × List Int × List Int) => [⟨a_3, cD kI tI z_18.1⟩, ⟨a_6, cL tI z_18.2.1⟩, ⟨a_9, cL (tL tI) z_11.2.2⟩, ⟨a_16, cL tI z_18.2.2⟩]) (_, _, _) hp rfl (ik_tup (pk_ixU (pk_fld cl_Machine.c cl_Machine.n_table (PK.ins (pk_var (i := 0) rfl))) (pk_ixR (T := tI) (PV.lk (PK.own 1 (pk_var (i := 3) rfl) rfl)) (PV.k (pv_cb cr_lenQ bs.m_len bs.b_len u_len (PV.q (PK.own 2 (pk_var (i := 4) rfl) rfl))))))) (gk_name (i := 6) (by exact sc.nd)) (.same (.same (.same (.same (.same (.same (.same (.same (.same (.same .nil)))))))))) rfl ?b526 ?k527
              case b526 =>
               intro fl_22 hs_21 N_20 z_18 x_19
               refine' sk_st (ρ2 := [.val (ty_Machine C_Machine) a, .val (tL tI) class_of_1, .val tR a_3, .val tR a_6, .val tR a_9, .val tR a_16, .val tI x_19, .un, .un, .un]) (cs2 := [⟨a_3, cD kI tI z_18.1⟩, ⟨a_6, cL tI z_18.2.1⟩, ⟨a_9, cL (tL tI) z_11.2.2⟩, ⟨a_16, cL tI z_18.2.2⟩]) rfl rfl ?k528
               case k528 =>
                refine' sk_join (fun z_23 : (List (Int × Int) × List Int) => [.val (ty_Machine C_Machine) a, .val (tL tI) class_of_1, .val tR a_3, .val tR a_6, .val tR a_9, .val tR a_16, .val tI x_19, .un, .un, .un]) (fun z_23 : (List (Int × Int) × List Int) => [⟨a_3, cD kI tI z_23.1⟩, ⟨a_6, cL tI z_23.2⟩, ⟨a_9, cL (tL tI) z_11.2.2⟩, ⟨a_16, cL tI z_18.2.2⟩]) ?h529 ?k530
                case h529 =>
                 intro R_24
                 refine' sk_if1 (pt_dnin hu (pk_ixR (T := tI) (PV.lk (PK.l (pk_var (i := 1) rfl))) (pk_var (i := 6) rfl)) (PK.ownD 0 (pk_var (i := 2) rfl) rfl)) ?a531 ?b532
                 case a531 =>
                  refine' sk_dput 0 hu (PK.ek (PV.k (pv_cb cr_lenQ bs.m_len bs.b_len u_len (PV.q (PK.own 1 (pk_var (i := 3) rfl) rfl))))) (fun _ => (pk_var (i := 2) rfl)) (fun _ => (pk_ixR (T := tI) (PV.lk (PK.l (pk_var (i := 1) rfl))) (pk_var (i := 6) rfl))) (fun _ => rfl) ?k533
                  case k533 =>
                   intro y_25 w_26
                   refine' sk_st (ρ2 := [.val (ty_Machine C_Machine) a, .val (tL tI) class_of_1, .val tR a_3, .val tR a_6, .val tR a_9, .val tR a_16, .val tI x_19, .un, .un, .un]) (cs2 := [⟨a_3, cD kI tI w_26⟩, ⟨a_6, cL tI z_18.2.1⟩, ⟨a_9, cL (tL tI) z_11.2.2⟩, ⟨a_16, cL tI z_18.2.2⟩]) rfl rfl ?k534
                   case k534 =>
                    refine' sk_expr (ek_mL PySem.F.slot_list_append PySem.F.type_list_append mt_append ml_append 1 (pk_var (i := 3) rfl) (ak_1 (PK.ek (pk_var (i := 6) rfl))) (fun _ => rfl) ⟨_, rfl⟩) ?k535
                    case k535 =>
                     intro y_27
                     refine' sk_name 1 rfl ?k536
                     case k536 =>
                      intro w_28
                      refine' sk_st (ρ2 := [.val (ty_Machine C_Machine) a, .val (tL tI) class_of_1, .val tR a_3, .val tR a_6, .val tR a_9, .val tR a_16, .val tI x_19, .un, .un, .un]) (cs2 := [⟨a_3, cD kI tI w_26⟩, ⟨a_6, cL tI w_28⟩, ⟨a_9, cL (tL tI) z_11.2.2⟩, ⟨a_16, cL tI z_18.2.2⟩]) rfl rfl ?k537
                      case k537 =>
                       exact sk_midX (z := (_, _)) rfl (.same (.same (.same (.same (.same (.same (.same (.same (.same (.same .nil)))))))))) rfl
                 case b532 =>
                  exact sk_midX (z := (_, _)) rfl (.same (.same (.same (.same (.same (.same (.same (.same (.same (.same .nil)))))))))) rfl
                case k530 =>
                 intro z_23
                 refine' sk_expr (ek_mL PySem.F.slot_list_append PySem.F.type_list_append mt_append ml_append 3 (pk_var (i := 5) rfl) (ak_1 (PK.ek (pk_dget hu (PK.ownD 0 (pk_var (i := 2) rfl) rfl) (pk_ixR (T := tI) (PV.lk (PK.l (pk_var (i := 1) rfl))) (pk_var (i := 6) rfl))))) (fun _ => rfl) ⟨_, rfl⟩) ?k538
                 case k538 =>
                  intro y_29
                  refine' sk_name 3 rfl ?k539
                  case k539 =>
                   intro w_30
                   refine' sk_st (ρ2 := [.val (ty_Machine C_Machine) a, .val (tL tI) class_of_1, .val tR a_3, .val tR a_6, .val tR a_9, .val tR a_16, .val tI x_19, .un, .un, .un]) (cs2 := [⟨a_3, cD kI tI z_23.1⟩, ⟨a_6, cL tI z_23.2⟩, ⟨a_9, cL (tL tI) z_11.2.2⟩, ⟨a_16, cL tI w_30⟩]) rfl rfl ?k540
                   case k540 =>
                    exact sk_midX (z := (_, _, _)) rfl (.same (.same (.same (.same (.same (.same (.un (.same (.same (.same .nil)))))))))) rfl
              case k527 =>
               intro z_18
               refine' sk_freeze 3 5 rfl rfl rfl (Nat.le_of_ble_eq_true rfl) ?k541
               case k541 =>
                refine' sk_st (ρ2 := [.val (ty_Machine C_Machine) a, .val (tL tI) class_of_1, .val tR a_3, .val tR a_6, .val tR a_9, .val (tL tI) z_18.2.2, .un, .un, .un, .un]) (cs2 := [⟨a_3, cD kI tI z_18.1⟩, ⟨a_6, cL tI z_18.2.1⟩, ⟨a_9, cL (tL tI) z_11.2.2⟩]) rfl rfl ?k542
                case k542 =>
                 refine' sk_expr (ek_mL PySem.F.slot_list_append PySem.F.type_list_append mt_append ml_append 2 (pk_var (i := 4) rfl) (ak_1 (PK.ek (pk_var (i := 5) rfl))) (fun _ => rfl) ⟨_, rfl⟩) ?k543
                 case k543 =>
                  intro y_31
                  refine' sk_name 2 rfl ?k544
                  case k544 =>
                   intro w_32
                   refine' sk_st (ρ2 := [.val (ty_Machine C_Machine) a, .val (tL tI) class_of_1, .val tR a_3, .val tR a_6, .val tR a_9, .val (tL tI) z_18.2.2, .un, .un, .un, .un]) (cs2 := [⟨a_3, cD kI tI z_18.1⟩, ⟨a_6, cL tI z_18.2.1⟩, ⟨a_9, cL (tL tI) w_32⟩]) rfl rfl ?k545
                   case k545 =>
                    exact sk_midX (z := (_, _, _)) rfl (.same (.same (.same (.same (.same (.un (.same (.same (.same (.same .nil)))))))))) rfl
           case k523 =>
            intro z_11
            refine' sk_freeze 1 3 rfl rfl rfl (Nat.le_of_ble_eq_true rfl) ?k546
            case k546 =>
             refine' sk_st (ρ2 := [.val (ty_Machine C_Machine) a, .val (tL tI) class_of_1, .val tR a_3, .val (tL tI) z_11.2.1, .val tR a_9, .un, .un, .un, .un, .un]) (cs2 := [⟨a_3, cD kI tI z_11.1⟩, ⟨a_9, cL (tL tI) z_11.2.2⟩]) rfl rfl ?k547
             case k547 =>
              refine' sk_freeze 1 4 rfl rfl rfl (Nat.le_of_ble_eq_true rfl) ?k548
              case k548 =>
               refine' sk_st (ρ2 := [.val (ty_Machine C_Machine) a, .val (tL tI) class_of_1, .val tR a_3, .val (tL tI) z_11.2.1, .val (tL (tL tI)) z_11.2.2, .un, .un, .un, .un, .un]) (cs2 := [⟨a_3, cD kI tI z_11.1⟩]) rfl rfl ?k549
               case k549 =>
                refine' sk_setLcN (i := 7) rfl (by exact sc.nd) (blkOk_by (own := [("at", 8), ("state", 9)]) (N := ["machine", "class_of", "number", "states", "table", "steps", "goal", "good", "at", "state"]) (sc := defScope s_least) (by decide +kernel)) ?lc79 ?k551
                case lc79 =>
                 exact lc_k (own := [("at", 8), ("state", 9)]) (T := (tT (tsC tI (ts1 tI)))) (U := tI) (G := fun ρ x => (List.set (List.set ρ 8 (.val tI x.1)) 9 (.val tI x.2))) (vs := [8, 9]) (cs' := (fun _ : Unit => [⟨a_3, cD kI tI z_11.1⟩])) (z0 := fun y => ()) (s1 := fun _ _ _ => ()) (s2 := fun _ _ _ _ => ()) (IK.ie (ik_enum bs.m_enumerate (pk_var (i := 3) rfl))) (fun _ => rfl) (by decide) (fun _ _ _ _ _ => (gk_tup rfl (gs_C (gk_name (i := 8) (by exact sc.nd)) (gs_1 (gk_name (i := 9) (by exact sc.nd)))) (tlC tl1))) (fun _ _ _ _ _ _ _ => (ts_1 (PTK.tk (pt_in fI (pk_var (i := 9) rfl) (PV.uq (PK.u (pk_fld cl_Machine.c cl_Machine.n_good (PK.ins (pk_var (i := 0) rfl))))))))) (fun _ _ _ _ _ _ _ _ => (PK.ek (pk_var (i := 8) rfl)))
                case k551 =>
                 intro y_35 a_37 good_36
                 refine' sk_st (ρ2 := [.val (ty_Machine C_Machine) a, .val (tL tI) class_of_1, .val tR a_3, .val (tL tI) z_11.2.1, .val (tL (tL tI)) z_11.2.2, .un, .un, .val tR a_37, .un, .un]) (cs2 := [⟨a_3, cD kI tI z_11.1⟩, ⟨a_37, cL tI good_36⟩]) rfl rfl ?k552
                 case k552 =>
                  refine' sk_freeze 1 7 rfl rfl rfl (Nat.le_of_ble_eq_true rfl) ?k553
                  case k553 =>
                   refine' sk_st (ρ2 := [.val (ty_Machine C_Machine) a, .val (tL tI) class_of_1, .val tR a_3, .val (tL tI) z_11.2.1, .val (tL (tL tI)) z_11.2.2, .un, .un, .val (tL tI) good_36, .un, .un]) (cs2 := [⟨a_3, cD kI tI z_11.1⟩]) rfl rfl ?k554
                   case k554 =>
                    refine' sk_drop 0 ?k555
                    case k555 =>
                     refine' sk_st (ρ2 := [.val (ty_Machine C_Machine) a, .val (tL tI) class_of_1, .val tR a_3, .val (tL tI) z_11.2.1, .val (tL (tL tI)) z_11.2.2, .un, .un, .val (tL tI) good_36, .un, .un]) (cs2 := []) rfl rfl ?k556
                     case k556 =>
                      exact sk_retPE (ek_makeS g_Machine_init hr (slC (slC sl1)) (PAK.ak (pa_C (NK.pk (nk_ct call_list_of bs.m_list bs.b_list n_list (PV.uq (PK.u (PK.uf (pk_fld cl_Machine.c cl_Machine.n_letters (PK.ins (pk_var (i := 0) rfl)))))))) (pa_C (pk_var (i := 4) rfl) (pa_1 (pk_var (i := 7) rfl)))))) (fun _ => rfl)
  case vc =>
   intro h
   simp only [true_and, and_true, yes1, yes2]
   obtain ⟨ls, tab, good⟩ := a
   obtain ⟨⟨hM, hG⟩, hφ⟩ := h
   have hM : TabOk ls tab := hM
   have hT : TOk ls.length tab := tok_of hM
   have few : tab.length ≤ 64 := hM.few
   have pos : 0 < tab.length := List.length_pos_iff.mpr hM.ne
   have z0 : InR tab 0 := ⟨Int.le_refl 0, by omega⟩
   try dsimp only
   refine ⟨⟨hM, hG⟩, fun r hr cs ecs => ?_⟩
   have hC : ColA ls.length tab good cs := by rw [ecs]; exact hr
   have cl := hC.len
   have hix : ∀ x, InR tab x → IxOk cs x := fun x hx => ⟨by have := hx.1; omega, by rw [cl]; exact hx.2⟩
   refine ⟨hix 0 z0, fun _ z1 ez1 _ z2 ez2 _ z3 ez3 => ?_⟩
   refine ⟨fun n y => y.1 = prs 0 (y.2.1.map (pyIx cs)) ∧ LF tab cs y.2.1 y.2.2 ∧ n + y.2.2.length = tab.length + 1, ⟨tab.length + 1, by rw [ez1, ez2]; rfl, by rw [ez2, ez3]; exact LF.start z0, by rw [ez3]; rfl⟩, fun n y ⟨i1, i2, i3⟩ => ⟨fun e => ?_, fun e => ?_⟩⟩
   · have few2 := i2.few
     have lt : y.2.2.length < y.2.1.length := by have := of_decide_eq_true e; omega
     obtain ⟨s, hs⟩ : ∃ s, y.2.1[y.2.2.length]? = some s := ⟨_, List.getElem?_eq_getElem lt⟩
     have es : pyIx y.2.1 (y.2.2.length : Int) = s := pyIx_get hs
     have hsi : InR tab s := i2.inr s (List.mem_of_getElem? hs)
     intro _ z5 ez5
     rw [es]
     refine ⟨⟨(show IxOk y.2.1 ((y.2.2.length : Nat) : Int) from ⟨by omega, by omega⟩), ⟨by have := hsi.1; omega, hsi.2⟩⟩, fun j v => v.1 = prs 0 (v.2.1.map (pyIx cs)) ∧ LR tab cs v.2.1 y.2.2 s j v.2.2, ⟨i1, by rw [ez5]; exact i2.begin hs⟩, fun j v x hx ⟨j1, j2⟩ => ?_, fun v ⟨j1, j2⟩ => ⟨by rw [sizeLine_eq]; omega, fun z6 ez6 w6 ew6 => ⟨n - 1, by omega, j1, ?_, ?_⟩⟩⟩
     · have hxi : InR tab x := hT.goal _ (pyIx_mem hsi.1 hsi.2) x (get_mem hx)
       have few3 := j2.few
       refine ⟨fun v2 => v2.1 = prs 0 (v2.2.map (pyIx cs)) ∧ pyIx cs x ∈ v2.2.map (pyIx cs) ∧ LR tab cs v2.2 y.2.2 s (j + 1) (v.2.2 ++ [ixF cs v2.2 x]), ⟨hix x hxi, fun e => ⟨hix x hxi, ?_, fun z7 ez7 => ⟨?_, fun z8 ez8 w8 ew8 => ?_⟩⟩, fun e => ?_⟩, fun v2 ⟨k1, k2, k3⟩ => ⟨⟨hix x hxi, ?_⟩, ?_, fun z8 ez8 w8 ew8 => ⟨k1, ?_⟩⟩⟩
       · rw [j1, prs_len, List.length_map, sizeLine_eq]; omega
       · rw [sizeLine_eq]; omega
       · have nm : pyIx cs x ∉ v.2.1.map (pyIx cs) := fun c => by
           rw [j1, dget_prs 0 c] at e
           cases e
         have ew : w8 = v.2.1 ++ [x] := ew8.trans ez8
         refine ⟨?_, ?_, ?_⟩
         · show z7 = prs 0 (w8.map (pyIx cs))
           rw [ez7, ew, j1, List.map_append]
           have := prs_put nm
           rw [List.length_map] at this
           exact this
         · show pyIx cs x ∈ w8.map (pyIx cs)
           rw [ew, List.map_append]
           exact List.mem_append_right _ (List.mem_singleton.mpr rfl)
         · show LR tab cs w8 y.2.2 s (j + 1) (v.2.2 ++ [ixF cs w8 x])
           rw [ew, ixF_new nm]
           exact j2.new hx hxi nm
       · have m : pyIx cs x ∈ v.2.1.map (pyIx cs) := by
           apply Classical.byContradiction
           intro c
           rw [j1, prs_none 0 c] at e
           cases e
         exact ⟨j1, m, j2.old hx m⟩
       · rw [k1, dget_prs 0 k2]; rfl
       · have hjl := (List.getElem?_eq_some_iff.mp hx).1
         rw [hT.len _ (pyIx_mem hsi.1 hsi.2)] at hjl
         have l6 := hM.l6
         rw [j2.steps, List.length_map, List.length_take, sizeLine_eq]
         omega
       · show LR tab cs v2.2 y.2.2 s (j + 1) w8
         rw [ew8, ez8, k1, dget_prs 0 k2]
         have : ((0 + (v2.2.map (pyIx cs)).idxOf (pyIx cs x) : Nat) : Int) = ixF cs v2.2 x := by unfold ixF; omega
         show LR tab cs v2.2 y.2.2 s (j + 1) (v.2.2 ++ [((0 + (v2.2.map (pyIx cs)).idxOf (pyIx cs x) : Nat) : Int)])
         rw [this]
         exact k3
     · show LF tab cs v.2.1 w6
       rw [ew6, ez6]
       exact j2.done (Nat.le_refl _)
     · show n - 1 + w6.length = tab.length + 1
       rw [ew6, ez6, List.length_append]
       show n - 1 + (y.2.2.length + 1) = _
       omega
   · have ge : y.2.1.length ≤ y.2.2.length := by have := of_decide_eq_false e; omega
     have hle := i2.le
     have few2 := i2.few
     obtain ⟨f1, f2⟩ := i2.done hT hC ge
     refine ⟨fun i acc _ => acc = ((rng 0 (y.2.1.length : Int)).take i).filter (fun k => decide (pyIx y.2.1 k ∈ good)), rfl, fun i acc _ x hx hI => ?_, fun acc _ hI _ z ez => ?_⟩
     · obtain ⟨e1, e2⟩ := enumF_get hx
       have hi := (List.getElem?_eq_some_iff.mp e2).1
       have hg := rng_eqI hi
       have px := pyIx_get e2
       dsimp only at hI
       refine ⟨fun c => ?_, fun c => ?_⟩
       · show acc ++ [x.1] = _
         rw [e1, filt_yes hg (by rw [px]; exact c), hI]
       · show acc = _
         rw [filt_no hg (by rw [px]; exact c), hI]
     · dsimp only at hI
       rw [enumF_length] at hI
       have ez : z = goodF y.2.1 good := by
         rw [ez, hI, List.take_of_length_le (by rw [rng_len]; exact Nat.le_refl _)]
         rfl
       subst ez
       have nt0 := f1.ne
       have ok : MaOk (ls, y.2.2, goodF y.2.1 good) := ⟨⟨fun (c : y.2.2 = []) => by rw [c] at nt0; exact absurd nt0.2 (by decide), by show y.2.2.length ≤ 64; omega, hM.lne, hM.l6, hM.nd, hM.w, f1.ok.len, f1.ok.goal⟩, f1.good⟩
       exact ⟨ok, fun r er => hφ r (by rw [er]; exact ⟨rfl, ok, f1, f2, by show y.2.2.length ≤ tab.length; omega⟩)⟩
abbrev s_lclasses : Stmt := topS 24
theorem sc_lclasses : FnScope ["_law_table", "_law_good", "_law_found", "_law_turn", "_law_told_so", "_law_signs", "_law_sign", "_law_state", "_law_goal"] ["_law_table", "_law_good"] (defScope s_lclasses) := ⟨rfl, rfl, rfl, by decide +kernel, rfl, by decide +kernel, by decide +kernel⟩
def c_lclasses (K : PySem.W.Frag) := Con.fp (K := K) (fun x : ((List (List Int)) × (List Int)) => [.val (tU (tU tI)) x.1, .val (tU tI) x.2]) (tL tI) pre_lclasses post_lclasses
theorem ok_lclasses (bs : Bs mg) {f : Addr} {fd : FuncData} (F : Fun K "_law_classes" "_law_classes" s_lclasses f fd) : FnOk P w K mg base (L2.CX P w) 1 f fd ["_law_table", "_law_good"] (c_lclasses K).sp := by
  refine fn_con (c_lclasses K) F sc_lclasses (fun _ => rfl) ?_
  intro cdv Ar outer s H E F0 a φ ε hr hp
  have hu := hu_of hr
  have sc := sc_lclasses
  refine' SK.vc ?hh ?vc
  case hh =>
   refine' sk_setE (i := 2) (by exact sc.nd) (NE.ek (ne_lc rfl (by exact sc.nd) ?lc87 ?lc86 ?lc88)) ?k621
   case lc87 =>
    exact blkOk_by (own := [("_law_state", 7)]) (N := ["_law_table", "_law_good", "_law_found", "_law_turn", "_law_told_so", "_law_signs", "_law_sign", "_law_state", "_law_goal"]) (sc := defScope s_lclasses) (by decide +kernel)
   case lc86 =>
    refine' lc_k (own := [("_law_state", 7)]) (T := tI) (U := tI) (G := fun ρ x => (List.set ρ 7 (.val tI x))) (vs := [7]) (cs' := (fun _ : Unit => [])) (z0 := fun y => ()) (s1 := fun _ _ _ => ()) (s2 := fun _ _ _ _ => ()) ?lc83 ?lc84 ?lc85 ?lc82 ?lc80 ?lc81
    case lc83 =>
     exact (IK.ie (ik_range1 bs.m_range (PV.k (pv_cb cr_lenQ bs.m_len bs.b_len u_len (PV.uq (PK.u (pk_var (i := 0) rfl)))))))
    case lc84 =>
     exact fun _ => rfl
    case lc85 =>
     exact by decide
    case lc82 =>
     exact fun _ _ _ _ _ => (gk_name (i := 7) (by exact sc.nd))
    case lc80 =>
     exact fun _ _ _ _ _ _ _ => ts_0
    case lc81 =>
     exact fun _ _ _ _ _ _ _ _ => (PK.ek (PV.k (pv_ct call_int1 bs.m_int bs.b_int u_intB (PK.v (pk_in fI (pk_var (i := 7) rfl) (PV.uq (PK.u (pk_var (i := 1) rfl))))))))
   case lc88 =>
    exact fun _ => rfl
   case k621 =>
    intro y_4 found_3
    refine' sk_st (ρ2 := [.val (tU (tU tI)) a.1, .val (tU tI) a.2, .val (tL tI) found_3, .un, .un, .un, .un, .un, .un]) (cs2 := []) rfl rfl ?k628
    case k628 =>
     refine' sk_for (fun z_5 : (List Int) => [.val (tU (tU tI)) a.1, .val (tU tI) a.2, .val (tL tI) z_5, .un, .un, .un, .un, .un, .un]) (fun z_5 : (List Int) => []) _ hp rfl (ik_range1 bs.m_range (PV.k (pv_cb cr_lenQ bs.m_len bs.b_len u_len (PV.uq (PK.u (pk_var (i := 0) rfl)))))) (gk_name (i := 3) (by exact sc.nd)) (.same (.same (.same (.same (.same (.same (.same (.same (.same .nil))))))))) rfl ?b629 ?k630
     case b629 =>
      intro fl_9 hs_8 N_7 z_5 x_6
      refine' sk_st (ρ2 := [.val (tU (tU tI)) a.1, .val (tU tI) a.2, .val (tL tI) z_5, .val tI x_6, .un, .un, .un, .un, .un]) (cs2 := []) rfl rfl ?k631
      case k631 =>
       refine' sk_setDt kUI tI (i := 4) (by exact sc.nd) nd_newT ?k632
       case k632 =>
        intro a_10
        refine' sk_st (ρ2 := [.val (tU (tU tI)) a.1, .val (tU tI) a.2, .val (tL tI) z_5, .val tI x_6, .val tR a_10, .un, .un, .un, .un]) (cs2 := [⟨a_10, cDt kUI tI []⟩]) rfl rfl ?k633
        case k633 =>
         refine' sk_setLc (i := 5) rfl (by exact sc.nd) (blkOk_by (own := [("_law_state", 7)]) (N := ["_law_table", "_law_good", "_law_found", "_law_turn", "_law_told_so", "_law_signs", "_law_sign", "_law_state", "_law_goal"]) (sc := defScope s_lclasses) (by decide +kernel)) ?lc118 ?k635
         case lc118 =>
          refine' lc_k (own := [("_law_state", 7)]) (T := tI) (U := (tUp tI)) (G := fun ρ x => (List.set ρ 7 (.val tI x))) (vs := [7]) (cs' := (fun _ : Unit => [⟨a_10, cDt kUI tI []⟩])) (z0 := fun y => ()) (υ := fun _ _ _ => (Unit × (List Int × Unit))) (s1 := fun _ _ _ => ()) (s2 := fun _ _ _ _ => ()) ?lc106 ?lc116 ?lc117 ?lc105 ?lc103 ?lc104
          case lc106 =>
           exact (IK.ie (ik_range1 bs.m_range (PV.k (pv_cb cr_lenQ bs.m_len bs.b_len u_len (PV.uq (PK.u (pk_var (i := 0) rfl)))))))
          case lc116 =>
           exact fun _ => rfl
          case lc117 =>
           exact by decide
          case lc105 =>
           exact fun _ _ _ _ _ => (gk_name (i := 7) (by exact sc.nd))
          case lc103 =>
           exact fun _ _ _ _ _ _ _ => ts_0
          case lc104 =>
           refine' fun _ _ _ _ _ _ _ _ => (ek_catUp (cs1 := fun _ => [⟨a_10, cDt kUI tI []⟩]) (cs2 := fun _ _ => [⟨a_10, cDt kUI tI []⟩]) ?lc101 ?lc99 ?lc102)
           case lc101 =>
            refine' ek_tupU1p ?lc100
            case lc100 =>
             exact PK.ek (pk_ixR (T := tI) (PV.lk (PK.l (pk_var (i := 2) rfl))) (pk_var (i := 7) rfl))
           case lc99 =>
            refine' fun _ => ?lc98
            case lc98 =>
             refine' EV.k (ev_ct call_tuple_of bs.m_tuple bs.b_tuple (fun _ => u_tupL) (EV.lk (NE.l (ne_lc rfl (by exact sc.nd) ?lc96 ?lc95 ?lc97))))
             case lc96 =>
              exact blkIn_by (own := [("_law_goal", 8)]) (N := ["_law_table", "_law_good", "_law_found", "_law_turn", "_law_told_so", "_law_signs", "_law_sign", "_law_state", "_law_goal"]) (sc := defScope s_lclasses) rfl rfl (by decide +kernel)
             case lc95 =>
              refine' lc_k (own := [("_law_goal", 8)]) (T := tI) (U := tI) (G := fun ρ x => (List.set ρ 8 (.val tI x))) (vs := [8]) (cs' := (fun _ : Unit => [⟨a_10, cDt kUI tI []⟩])) (z0 := fun y => ()) (s1 := fun _ _ _ => ()) (s2 := fun _ _ _ _ => ()) ?lc92 ?lc93 ?lc94 ?lc91 ?lc89 ?lc90
              case lc92 =>
               exact (IK.ie (ik_tup (pk_ixU (pk_var (i := 0) rfl) (pk_var (i := 7) rfl))))
              case lc93 =>
               exact fun _ => rfl
              case lc94 =>
               exact by decide
              case lc91 =>
               exact fun _ _ _ _ _ => (gk_name (i := 8) (by exact sc.nd))
              case lc89 =>
               exact fun _ _ _ _ _ _ _ => ts_0
              case lc90 =>
               exact fun _ _ _ _ _ _ _ _ => (PK.ek (pk_ixR (T := tI) (PV.lk (PK.l (pk_var (i := 2) rfl))) (pk_var (i := 8) rfl)))
             case lc97 =>
              exact fun _ => rfl
           case lc102 =>
            exact fun _ => List.cons_ne_nil _ _
         case k635 =>
          intro y_17 signs_18
          refine' sk_st (ρ2 := [.val (tU (tU tI)) a.1, .val (tU tI) a.2, .val (tL tI) z_5, .val tI x_6, .val tR a_10, .val (tL (tUp tI)) signs_18, .un, .un, .un]) (cs2 := [⟨a_10, cDt kUI tI []⟩]) rfl rfl ?k656
          case k656 =>
           refine' sk_for (fun z_19 : List ((List Int) × Int) => [.val (tU (tU tI)) a.1, .val (tU tI) a.2, .val (tL tI) z_5, .val tI x_6, .val tR a_10, .val (tL (tUp tI)) signs_18, .un, .un, .un]) (fun z_19 : List ((List Int) × Int) => [⟨a_10, cDt kUI tI z_19⟩]) _ hp rfl (ik_list (pk_var (i := 5) rfl)) (gk_name (i := 6) (by exact sc.nd)) (.same (.same (.same (.same (.same (.same (.same (.same (.same .nil))))))))) rfl ?b657 ?k658
           case b657 =>
            intro fl_23 hs_22 N_21 z_19 x_20
            refine' sk_st (ρ2 := [.val (tU (tU tI)) a.1, .val (tU tI) a.2, .val (tL tI) z_5, .val tI x_6, .val tR a_10, .val (tL (tUp tI)) signs_18, .val (tUp tI) x_20, .un, .un]) (cs2 := [⟨a_10, cDt kUI tI z_19⟩]) rfl rfl ?k659
            case k659 =>
             refine' sk_seq (sk_if1 (pt_dninT hu (pk_var (i := 6) rfl) (PK.ownDt 0 (pk_var (i := 4) rfl) rfl)) ?a660 ?b661)
             case a660 =>
              refine' sk_dputT 0 hu (PK.ek (PV.k (pv_cb cr_lenDt bs.m_len bs.b_len u_lenDt (PK.ownDt 0 (pk_var (i := 4) rfl) rfl)))) (fun _ => (pk_var (i := 4) rfl)) (fun _ => (pk_var (i := 6) rfl)) (fun _ => rfl) ?k662
              case k662 =>
               intro y_24 w_25
               refine' sk_st (ρ2 := [.val (tU (tU tI)) a.1, .val (tU tI) a.2, .val (tL tI) z_5, .val tI x_6, .val tR a_10, .val (tL (tUp tI)) signs_18, .val (tUp tI) x_20, .un, .un]) (cs2 := [⟨a_10, cDt kUI tI w_25⟩]) rfl rfl ?k663
               case k663 =>
                refine' sk_nilX rfl ?k664
                case k664 =>
                 exact sk_midX (z := _) rfl (.same (.same (.same (.same (.same (.same (.un (.same (.same .nil))))))))) rfl
             case b661 =>
              refine' sk_nilX rfl ?k665
              case k665 =>
               exact sk_midX (z := _) rfl (.same (.same (.same (.same (.same (.same (.un (.same (.same .nil))))))))) rfl
           case k658 =>
            intro z_19
            refine' sk_setE (i := 2) (by exact sc.nd) (NE.ek (ne_lc rfl (by exact sc.nd) ?lc126 ?lc125 ?lc127)) ?k669
            case lc126 =>
             exact blkOk_by (own := [("_law_sign", 6)]) (N := ["_law_table", "_law_good", "_law_found", "_law_turn", "_law_told_so", "_law_signs", "_law_sign", "_law_state", "_law_goal"]) (sc := defScope s_lclasses) (by decide +kernel)
            case lc125 =>
             refine' lc_k (own := [("_law_sign", 6)]) (T := (tUp tI)) (U := tI) (G := fun ρ x => (List.set ρ 6 (.val (tUp tI) x))) (vs := [6]) (cs' := (fun _ : Unit => [⟨a_10, cDt kUI tI z_19⟩])) (z0 := fun y => ()) (s1 := fun _ _ _ => ()) (s2 := fun _ _ _ _ => ()) ?lc122 ?lc123 ?lc124 ?lc121 ?lc119 ?lc120
             case lc122 =>
              exact (IK.ie (ik_list (pk_var (i := 5) rfl)))
             case lc123 =>
              exact fun _ => rfl
             case lc124 =>
              exact by decide
             case lc121 =>
              exact fun _ _ _ _ _ => (gk_name (i := 6) (by exact sc.nd))
             case lc119 =>
              exact fun _ _ _ _ _ _ _ => ts_0
             case lc120 =>
              exact fun _ _ _ _ _ _ _ _ => (PK.ek (pk_dgetT hu (PK.ownDt 0 (pk_var (i := 4) rfl) rfl) (pk_var (i := 6) rfl)))
            case lc127 =>
             exact fun _ => rfl
            case k669 =>
             intro y_29 found_28
             refine' sk_st (ρ2 := [.val (tU (tU tI)) a.1, .val (tU tI) a.2, .val (tL tI) found_28, .val tI x_6, .val tR a_10, .val (tL (tUp tI)) signs_18, .un, .un, .un]) (cs2 := [⟨a_10, cDt kUI tI z_19⟩]) rfl rfl ?k676
             case k676 =>
              refine' sk_drop 0 ?k677
              case k677 =>
               refine' sk_st (ρ2 := [.val (tU (tU tI)) a.1, .val (tU tI) a.2, .val (tL tI) found_28, .val tI x_6, .val tR a_10, .val (tL (tUp tI)) signs_18, .un, .un, .un]) (cs2 := []) rfl rfl ?k678
               case k678 =>
                exact sk_midX (z := _) rfl (.same (.same (.same (.un (.un (.un (.same (.same (.same .nil))))))))) rfl
     case k630 =>
      intro z_5
      exact sk_retP (pk_var (i := 2) rfl)
  case vc =>
   intro h
   simp only [true_and, and_true, yes1, yes2]
   obtain ⟨tab, good⟩ := a
   obtain ⟨⟨m0, hT0, m6, few⟩, hφ⟩ := h
   have hT0 : TOk m0 tab := hT0
   have few : tab.length ≤ 64 := few
   have hφ : ∀ r, (∀ m, TOk m tab → ColA m tab good r) → φ r := fun r hr => hφ r hr
   try dsimp only
   have nr : (rng 0 (tab.length : Int)).length = tab.length := rng_len _
   refine ⟨⟨by omega, by omega⟩, fun i acc _ => acc = ((rng 0 (tab.length : Int)).take i).map (fun x => if decide (x ∈ good) = true then (1 : Int) else 0), rfl, fun i acc _ x hx hI => ⟨fun _ => ?_, fun e => (by cases e)⟩, fun acc _ hI z ez => ?_⟩
   · dsimp only at hI ⊢
     rw [map_step _ hx, hI]
   dsimp only at hI
   rw [List.take_length] at hI
   refine ⟨⟨by omega, by omega⟩, fun i z => z.length = tab.length ∧ ∀ m, TOk m tab → ∀ s t, InR tab s → InR tab t → (pyIx z s = pyIx z t ↔ Ek m tab good i s t), ⟨by rw [ez, hI, List.length_map, nr], fun m _ => by
     rw [ez, hI]
     refine col_zero fun s t => ?_
     by_cases a : s ∈ good <;> by_cases b : t ∈ good <;> simp [a, b]⟩, fun i z x hx ⟨i1, i2⟩ _ => ?_, fun z ⟨i1, i2⟩ => hφ z fun m hm => ?_⟩
   rotate_left
   · exact Col.all hm (k := (rng 0 (tab.length : Int)).length) (by rw [nr]; omega) ⟨i1, i2 m hm⟩
   have hz : ∀ s, InR tab s → IxOk z s := fun s hs => ⟨by have := hs.1; omega, by rw [i1]; exact hs.2⟩
   refine ⟨⟨by omega, by omega⟩, fun j acc _ => acc = ((rng 0 (tab.length : Int)).take j).map (fun s => [pyIx z s] ++ (pyIx tab s).map (pyIx z)), rfl, fun j acc _ y hy hI => ⟨fun _ => ?_, fun e => (by cases e)⟩, fun acc _ hI sg esg => ?_⟩
   · obtain ⟨ey, hyj⟩ := rng_get hy
     have hyi : InR tab y := ⟨by omega, by omega⟩
     refine ⟨hz y hyi, ⟨by have := hyi.1; omega, hyi.2⟩, fun q acc1 _ => acc1 = ((pyIx tab y).take q).map (pyIx z), rfl, fun q acc1 _ g hg hJ => ⟨fun _ => ⟨hz g (hT0.goal _ (pyIx_mem hyi.1 hyi.2) g (get_mem hg)), ?_⟩, fun e => (by cases e)⟩, fun acc1 _ hJ => ⟨?_, ?_⟩⟩
     · dsimp only at hJ ⊢
       rw [map_step _ hg, hJ]
     · dsimp only at hJ
       rw [hJ, List.length_map, List.take_length, hT0.len _ (pyIx_mem hyi.1 hyi.2), sizeLine_eq]
       show 1 + m0 ≤ _
       omega
     · dsimp only at hJ hI ⊢
       rw [List.take_length] at hJ
       rw [map_step _ hy, hI, hJ]
   · dsimp only at hI
     rw [List.take_length] at hI
     have sl : sg.length = tab.length := by rw [esg, hI, List.length_map, nr]
     refine ⟨fun j d => d = prs 0 (firsts (sg.take j)), rfl, fun j d x1 hx1 hJ => ?_, fun d hJ => ⟨fun j acc _ => acc = (sg.take j).map (numOf sg), rfl, fun j acc _ x1 hx1 hA => ⟨fun _ => ?_, fun e => (by cases e)⟩, fun acc1 _ hA z2 ez2 => ?_⟩⟩
     · have hJ : d = prs 0 (firsts (sg.take j)) := hJ
       have e1 : sg.take (j + 1) = sg.take j ++ [x1] := take_step hx1
       have fl := firsts_len (sg.take j)
       rw [List.length_take] at fl
       by_cases c : x1 ∈ firsts (sg.take j)
       · have hs : (dget d x1).isSome = true := by rw [hJ, dget_prs 0 c]; rfl
         rw [hs]
         refine ⟨fun e => (by cases e), fun _ => ?_⟩
         show d = prs 0 (firsts (sg.take (j + 1)))
         rw [e1, firsts_snoc, if_pos c]
         exact hJ
       · have hs : (dget d x1).isSome = false := by rw [hJ, prs_none 0 c]; rfl
         rw [hs]
         refine ⟨fun _ => ⟨by rw [hJ, prs_len, sizeLine_eq]; omega, fun d2 ed2 => ?_⟩, fun e => (by cases e)⟩
         show d2 = prs 0 (firsts (sg.take (j + 1)))
         rw [e1, firsts_snoc, if_neg c, ← prs_put c, ed2, hJ, prs_len]
     · have hJ : d = prs 0 (firsts (sg.take sg.length)) := hJ
       rw [List.take_length] at hJ
       have c : x1 ∈ firsts sg := (firsts_mem x1 sg).mpr (get_mem hx1)
       dsimp only at hA ⊢
       rw [hJ, dget_prs 0 c]
       refine ⟨rfl, ?_⟩
       rw [map_step _ hx1, hA]
       rw [Option.getD_some, Nat.zero_add]
       rfl
     · dsimp only at hA
       rw [List.take_length] at hA
       have e2 : z2 = sg.map (numOf sg) := ez2.trans hA
       refine ⟨by rw [e2, List.length_map, sl], fun m hm => ?_⟩
       rw [e2]
       refine (col_of sl fun s t hs ht => ?_).iff
       have at_ : ∀ s, InR tab s → pyIx sg s = pyIx z s :: (pyIx tab s).map (pyIx z) := fun s hs => by
         rw [esg, hI, pyIx_map _ hs.1 (by rw [nr]; exact hs.2), rng_ix hs.1 hs.2]
         rfl
       rw [at_ s hs, at_ t ht, List.cons.injEq]
       exact Col.next hm ⟨i1, i2 m hm⟩ hs ht
abbrev s_side_by_side : Stmt := topS 13
theorem sc_side_by_side : FnScope ["one", "other", "number", "pairs", "table", "first", "second", "steps", "pair"] ["one", "other"] (defScope s_side_by_side) := ⟨rfl, rfl, rfl, by decide +kernel, rfl, by decide +kernel, by decide +kernel⟩
def c_side_by_side (K : PySem.W.Frag) (C_Machine : Addr) := Con.fp (K := K) (fun x : ((List Str × List (List Int) × List Int) × (List Str × List (List Int) × List Int)) => [.val (ty_Machine C_Machine) x.1, .val (ty_Machine C_Machine) x.2]) (tT (tsC (tL (tT (tsC tI (ts1 tI)))) (ts1 (tL (tL tI))))) pre_side_by_side post_side_by_side
theorem ok_side_by_side (bs : Bs mg) {C_Machine : Addr} (cl_Machine : Cl_Machine K C_Machine) {f : Addr} {fd : FuncData} (F : Fun K "side_by_side" "side_by_side" s_side_by_side f fd) : FnOk P w K mg base (L2.CX P w) 1 f fd ["one", "other"] (c_side_by_side K C_Machine).sp := by
  refine fn_con (c_side_by_side K C_Machine) F sc_side_by_side (fun _ => rfl) ?_
  intro cdv Ar outer s H E F0 a φ ε hr hp
  have hu := hu_of hr
  have sc := sc_side_by_side
  refine' SK.vc ?hh ?vc
  case hh =>
   refine' sk_setDispT kII (i := 2) (by exact sc.nd) hr (pk_tup (pa_C pk_int (pa_1 pk_int)) (fun F vs => (lenC len1) F vs _)) pk_int ?k717
   case k717 =>
    intro a_1 number_2
    refine' sk_st (ρ2 := [.val (ty_Machine C_Machine) a.1, .val (ty_Machine C_Machine) a.2, .val tR a_1, .un, .un, .un, .un, .un, .un]) (cs2 := [⟨a_1, cDt kII tI number_2⟩]) rfl rfl ?k718
    case k718 =>
     refine' sk_setN (i := 3) (T := (tT (tsC tI (ts1 tI)))) (by exact sc.nd) (NK.ne (nk_lst (pl_C (pk_tup (pa_C pk_int (pa_1 pk_int)) (fun F vs => (lenC len1) F vs _)) pl_0) (Nat.le_of_ble_eq_true rfl))) ?k719
     case k719 =>
      intro y_3 a_4 pairs_5
      refine' sk_st (ρ2 := [.val (ty_Machine C_Machine) a.1, .val (ty_Machine C_Machine) a.2, .val tR a_1, .val tR a_4, .un, .un, .un, .un, .un]) (cs2 := [⟨a_1, cDt kII tI number_2⟩, ⟨a_4, cL (tT (tsC tI (ts1 tI))) pairs_5⟩]) rfl rfl ?k720
      case k720 =>
       refine' sk_setN (i := 4) (T := (tL tI)) (by exact sc.nd) (NK.ne (nk_lst (T := (tL tI)) (pl_0 (T := (tL tI))) (Nat.zero_le _))) ?k721
       case k721 =>
        intro y_6 a_7 table_8
        refine' sk_st (ρ2 := [.val (ty_Machine C_Machine) a.1, .val (ty_Machine C_Machine) a.2, .val tR a_1, .val tR a_4, .val tR a_7, .un, .un, .un, .un]) (cs2 := [⟨a_1, cDt kII tI number_2⟩, ⟨a_4, cL (tT (tsC tI (ts1 tI))) pairs_5⟩, ⟨a_7, cL (tL tI) table_8⟩]) rfl rfl ?k722
        case k722 =>
         refine' sk_while (fun z_9 : (List ((Int × Int) × Int) × List (Int × Int) × List (List Int)) => [.val (ty_Machine C_Machine) a.1, .val (ty_Machine C_Machine) a.2, .val tR a_1, .val tR a_4, .val tR a_7, .un, .un, .un, .un]) (fun z_9 : (List ((Int × Int) × Int) × List (Int × Int) × List (List Int)) => [⟨a_1, cDt kII tI z_9.1⟩, ⟨a_4, cL (tT (tsC tI (ts1 tI))) z_9.2.1⟩, ⟨a_7, cL (tL tI) z_9.2.2⟩]) (_, _, _) hp (.same (.same (.same (.same (.same (.same (.same (.same (.same .nil))))))))) rfl (fun z_9 => (pt_cmp' op_lt r2_B0 (PV.k (pv_cb cr_lenQ bs.m_len bs.b_len u_len (PV.q (PK.own 2 (pk_var (i := 4) rfl) rfl)))) (PV.k (pv_cb cr_lenQ bs.m_len bs.b_len u_len (PV.q (PK.own 1 (pk_var (i := 3) rfl) rfl)))))) ?b723 ?k724
         case b723 =>
          intro fl_12 hs_11 N_10 z_9
          refine' sk_setG (gk_tup rfl (gs_C (gk_name (i := 5) (by exact sc.nd)) (gs_1 (gk_name (i := 6) (by exact sc.nd)))) (tlC tl1)) (PK.ek (pk_ixR (T := (tT (tsC tI (ts1 tI)))) (PV.lk (PK.own 1 (pk_var (i := 3) rfl) rfl)) (PV.k (pv_cb cr_lenQ bs.m_len bs.b_len u_len (PV.q (PK.own 2 (pk_var (i := 4) rfl) rfl)))))) ?k725
          case k725 =>
           intro y_13 z_14
           refine' sk_st (ρ2 := [.val (ty_Machine C_Machine) a.1, .val (ty_Machine C_Machine) a.2, .val tR a_1, .val tR a_4, .val tR a_7, .val tI z_14.1, .val tI z_14.2, .un, .un]) (cs2 := [⟨a_1, cDt kII tI z_9.1⟩, ⟨a_4, cL (tT (tsC tI (ts1 tI))) z_9.2.1⟩, ⟨a_7, cL (tL tI) z_9.2.2⟩]) rfl rfl ?k726
           case k726 =>
            refine' sk_setN (i := 7) (T := tI) (by exact sc.nd) (NK.ne (nk_lst (T := tI) (pl_0 (T := tI)) (Nat.zero_le _))) ?k727
            case k727 =>
             intro y_15 a_16 steps_17
             refine' sk_st (ρ2 := [.val (ty_Machine C_Machine) a.1, .val (ty_Machine C_Machine) a.2, .val tR a_1, .val tR a_4, .val tR a_7, .val tI z_14.1, .val tI z_14.2, .val tR a_16, .un]) (cs2 := [⟨a_1, cDt kII tI z_9.1⟩, ⟨a_4, cL (tT (tsC tI (ts1 tI))) z_9.2.1⟩, ⟨a_7, cL (tL tI) z_9.2.2⟩, ⟨a_16, cL tI steps_17⟩]) rfl rfl ?k728
             case k728 =>
              refine' sk_for (fun z_18 : (List ((Int × Int) × Int) × List (Int × Int) × List Int) => [.val (ty_Machine C_Machine) a.1, .val (ty_Machine C_Machine) a.2, .val tR a_1, .val tR a_4, .val tR a_7, .val tI z_14.1, .val tI z_14.2, .val tR a_16, .un]) (fun z_18 : (List ((Int × Int) × Int) × List (Int × Int) × List Int) => [⟨a_1, cDt kII tI z_18.1⟩, ⟨a_4, cL (tT (tsC tI (ts1 tI))) z_18.2.1⟩, ⟨a_7, cL (tL tI) z_9.2.2⟩, ⟨a_16, cL tI z_18.2.2⟩]) (_, _, _) hp rfl (ik_zipN false false bs.m_zip sq_U sq_U (pk_ixU (pk_fld cl_Machine.c cl_Machine.n_table (PK.ins (pk_var (i := 0) rfl))) (pk_var (i := 5) rfl)) (pk_ixU (pk_fld cl_Machine.c cl_Machine.n_table (PK.ins (pk_var (i := 1) rfl))) (pk_var (i := 6) rfl))) (gk_name (i := 8) (by exact sc.nd)) (.same (.same (.same (.same (.same (.same (.same (.same (.same .nil))))))))) rfl ?b729 ?k730
              case b729 =>
               intro fl_22 hs_21 N_20 z_18 x_19
               refine' sk_st (ρ2 := [.val (ty_Machine C_Machine) a.1, .val (ty_Machine C_Machine) a.2, .val tR a_1, .val tR a_4, .val tR a_7, .val tI z_14.1, .val tI z_14.2, .val tR a_16, .val (tT (tsC tI (ts1 tI))) x_19]) (cs2 := [⟨a_1, cDt kII tI z_18.1⟩, ⟨a_4, cL (tT (tsC tI (ts1 tI))) z_18.2.1⟩, ⟨a_7, cL (tL tI) z_9.2.2⟩, ⟨a_16, cL tI z_18.2.2⟩]) rfl rfl ?k731
               case k731 =>
                refine' sk_join (fun z_23 : (List ((Int × Int) × Int) × List (Int × Int)) => [.val (ty_Machine C_Machine) a.1, .val (ty_Machine C_Machine) a.2, .val tR a_1, .val tR a_4, .val tR a_7, .val tI z_14.1, .val tI z_14.2, .val tR a_16, .val (tT (tsC tI (ts1 tI))) x_19]) (fun z_23 : (List ((Int × Int) × Int) × List (Int × Int)) => [⟨a_1, cDt kII tI z_23.1⟩, ⟨a_4, cL (tT (tsC tI (ts1 tI))) z_23.2⟩, ⟨a_7, cL (tL tI) z_9.2.2⟩, ⟨a_16, cL tI z_18.2.2⟩]) ?h732 ?k733
                case h732 =>
                 intro R_24
                 refine' sk_if1 (pt_dninT hu (pk_var (i := 8) rfl) (PK.ownDt 0 (pk_var (i := 2) rfl) rfl)) ?a734 ?b735
                 case a734 =>
                  refine' sk_dputT 0 hu (PK.ek (PV.k (pv_cb cr_lenQ bs.m_len bs.b_len u_len (PV.q (PK.own 1 (pk_var (i := 3) rfl) rfl))))) (fun _ => (pk_var (i := 2) rfl)) (fun _ => (pk_var (i := 8) rfl)) (fun _ => rfl) ?k736
                  case k736 =>
                   intro y_25 w_26
                   refine' sk_st (ρ2 := [.val (ty_Machine C_Machine) a.1, .val (ty_Machine C_Machine) a.2, .val tR a_1, .val tR a_4, .val tR a_7, .val tI z_14.1, .val tI z_14.2, .val tR a_16, .val (tT (tsC tI (ts1 tI))) x_19]) (cs2 := [⟨a_1, cDt kII tI w_26⟩, ⟨a_4, cL (tT (tsC tI (ts1 tI))) z_18.2.1⟩, ⟨a_7, cL (tL tI) z_9.2.2⟩, ⟨a_16, cL tI z_18.2.2⟩]) rfl rfl ?k737
                   case k737 =>
                    refine' sk_expr (ek_mL PySem.F.slot_list_append PySem.F.type_list_append mt_append ml_append 1 (pk_var (i := 3) rfl) (ak_1 (PK.ek (pk_var (i := 8) rfl))) (fun _ => rfl) ⟨_, rfl⟩) ?k738
                    case k738 =>
                     intro y_27
                     refine' sk_name 1 rfl ?k739
                     case k739 =>
                      intro w_28
                      refine' sk_st (ρ2 := [.val (ty_Machine C_Machine) a.1, .val (ty_Machine C_Machine) a.2, .val tR a_1, .val tR a_4, .val tR a_7, .val tI z_14.1, .val tI z_14.2, .val tR a_16, .val (tT (tsC tI (ts1 tI))) x_19]) (cs2 := [⟨a_1, cDt kII tI w_26⟩, ⟨a_4, cL (tT (tsC tI (ts1 tI))) w_28⟩, ⟨a_7, cL (tL tI) z_9.2.2⟩, ⟨a_16, cL tI z_18.2.2⟩]) rfl rfl ?k740
                      case k740 =>
                       exact sk_midX (z := (_, _)) rfl (.same (.same (.same (.same (.same (.same (.same (.same (.same .nil))))))))) rfl
                 case b735 =>
                  exact sk_midX (z := (_, _)) rfl (.same (.same (.same (.same (.same (.same (.same (.same (.same .nil))))))))) rfl
                case k733 =>
                 intro z_23
                 refine' sk_expr (ek_mL PySem.F.slot_list_append PySem.F.type_list_append mt_append ml_append 3 (pk_var (i := 7) rfl) (ak_1 (PK.ek (pk_dgetT hu (PK.ownDt 0 (pk_var (i := 2) rfl) rfl) (pk_var (i := 8) rfl)))) (fun _ => rfl) ⟨_, rfl⟩) ?k741
                 case k741 =>
                  intro y_29
                  refine' sk_name 3 rfl ?k742
                  case k742 =>
                   intro w_30
                   refine' sk_st (ρ2 := [.val (ty_Machine C_Machine) a.1, .val (ty_Machine C_Machine) a.2, .val tR a_1, .val tR a_4, .val tR a_7, .val tI z_14.1, .val tI z_14.2, .val tR a_16, .val (tT (tsC tI (ts1 tI))) x_19]) (cs2 := [⟨a_1, cDt kII tI z_23.1⟩, ⟨a_4, cL (tT (tsC tI (ts1 tI))) z_23.2⟩, ⟨a_7, cL (tL tI) z_9.2.2⟩, ⟨a_16, cL tI w_30⟩]) rfl rfl ?k743
                   case k743 =>
                    exact sk_midX (z := (_, _, _)) rfl (.same (.same (.same (.same (.same (.same (.same (.same (.un .nil))))))))) rfl
              case k730 =>
               intro z_18
               refine' sk_freeze 3 7 rfl rfl rfl (Nat.le_of_ble_eq_true rfl) ?k744
               case k744 =>
                refine' sk_st (ρ2 := [.val (ty_Machine C_Machine) a.1, .val (ty_Machine C_Machine) a.2, .val tR a_1, .val tR a_4, .val tR a_7, .val tI z_14.1, .val tI z_14.2, .val (tL tI) z_18.2.2, .un]) (cs2 := [⟨a_1, cDt kII tI z_18.1⟩, ⟨a_4, cL (tT (tsC tI (ts1 tI))) z_18.2.1⟩, ⟨a_7, cL (tL tI) z_9.2.2⟩]) rfl rfl ?k745
                case k745 =>
                 refine' sk_expr (ek_mL PySem.F.slot_list_append PySem.F.type_list_append mt_append ml_append 2 (pk_var (i := 4) rfl) (ak_1 (PK.ek (pk_var (i := 7) rfl))) (fun _ => rfl) ⟨_, rfl⟩) ?k746
                 case k746 =>
                  intro y_31
                  refine' sk_name 2 rfl ?k747
                  case k747 =>
                   intro w_32
                   refine' sk_st (ρ2 := [.val (ty_Machine C_Machine) a.1, .val (ty_Machine C_Machine) a.2, .val tR a_1, .val tR a_4, .val tR a_7, .val tI z_14.1, .val tI z_14.2, .val (tL tI) z_18.2.2, .un]) (cs2 := [⟨a_1, cDt kII tI z_18.1⟩, ⟨a_4, cL (tT (tsC tI (ts1 tI))) z_18.2.1⟩, ⟨a_7, cL (tL tI) w_32⟩]) rfl rfl ?k748
                   case k748 =>
                    exact sk_midX (z := (_, _, _)) rfl (.same (.same (.same (.same (.same (.un (.un (.un (.same .nil))))))))) rfl
         case k724 =>
          intro z_9
          refine' sk_freeze 1 3 rfl rfl rfl (Nat.le_of_ble_eq_true rfl) ?k749
          case k749 =>
           refine' sk_st (ρ2 := [.val (ty_Machine C_Machine) a.1, .val (ty_Machine C_Machine) a.2, .val tR a_1, .val (tL (tT (tsC tI (ts1 tI)))) z_9.2.1, .val tR a_7, .un, .un, .un, .un]) (cs2 := [⟨a_1, cDt kII tI z_9.1⟩, ⟨a_7, cL (tL tI) z_9.2.2⟩]) rfl rfl ?k750
           case k750 =>
            refine' sk_freeze 1 4 rfl rfl rfl (Nat.le_of_ble_eq_true rfl) ?k751
            case k751 =>
             refine' sk_st (ρ2 := [.val (ty_Machine C_Machine) a.1, .val (ty_Machine C_Machine) a.2, .val tR a_1, .val (tL (tT (tsC tI (ts1 tI)))) z_9.2.1, .val (tL (tL tI)) z_9.2.2, .un, .un, .un, .un]) (cs2 := [⟨a_1, cDt kII tI z_9.1⟩]) rfl rfl ?k752
             case k752 =>
              refine' sk_drop 0 ?k753
              case k753 =>
               refine' sk_st (ρ2 := [.val (ty_Machine C_Machine) a.1, .val (ty_Machine C_Machine) a.2, .val tR a_1, .val (tL (tT (tsC tI (ts1 tI)))) z_9.2.1, .val (tL (tL tI)) z_9.2.2, .un, .un, .un, .un]) (cs2 := []) rfl rfl ?k754
               case k754 =>
                exact sk_retP (pk_tup (pa_C (pk_var (i := 3) rfl) (pa_1 (pk_var (i := 4) rfl))) (fun F vs => (lenC len1) F vs _))
  case vc =>
   intro h
   simp only [true_and, and_true, yes1, yes2]
   obtain ⟨⟨ls, t1, g1⟩, ls2, t2, g2⟩ := a
   obtain ⟨⟨h1, h2, he, hs⟩, hφ⟩ := h
   have he : ls = ls2 := he
   subst he
   have M1 : TabOk ls t1 := h1.1
   have M2 : TabOk ls t2 := h2.1
   have T1 := tok_of M1
   have T2 := tok_of M2
   have hs : t1.length * t2.length ≤ 64 := hs
   have p1 : 0 < t1.length := List.length_pos_iff.mpr M1.ne
   have p2 : 0 < t2.length := List.length_pos_iff.mpr M2.ne
   have hφ : ∀ r, SB t1 t2 r.1 r.2 ∧ r.1.length ≤ r.2.length → φ r := fun r hr => hφ r hr
   try dsimp only
   intro _ z ez _ z1 ez1 _ z2 ez2
   refine ⟨fun n y => y.1 = KM.prs 0 y.2.1 ∧ SB t1 t2 y.2.1 y.2.2 ∧ n + y.2.2.length = 65, ⟨65, by rw [ez, ez1]; rfl, by rw [ez1, ez2]; exact SB.start ⟨Int.le_refl 0, by omega⟩ ⟨Int.le_refl 0, by omega⟩, by rw [ez2]; rfl⟩, fun n y ⟨i1, i2, i3⟩ => ⟨fun e => ?_, fun e => hφ _ ⟨i2, by have := of_decide_eq_false e; show y.2.1.length ≤ y.2.2.length; omega⟩⟩⟩
   have few := prs_few i2.nd i2.inr
   have lt : y.2.2.length < y.2.1.length := by have := of_decide_eq_true e; omega
   obtain ⟨p, hp⟩ : ∃ p, y.2.1[y.2.2.length]? = some p := ⟨_, List.getElem?_eq_getElem lt⟩
   have ep : pyIx y.2.1 (y.2.2.length : Int) = p := pyIx_get hp
   have hpi := i2.inr p (List.mem_of_getElem? hp)
   refine ⟨(show IxOk y.2.1 ((y.2.2.length : Nat) : Int) from ⟨by omega, by omega⟩), fun z3 ez3 _ z4 ez4 => ?_⟩
   rw [ep] at ez3
   subst ez3
   refine ⟨⟨⟨by have := hpi.1.1; omega, hpi.1.2⟩, ⟨by have := hpi.2.1; omega, hpi.2.2⟩⟩, fun j v => v.1 = KM.prs 0 v.2.1 ∧ SR t1 t2 v.2.1 y.2.2 z3 j v.2.2, ⟨i1, by rw [ez4]; exact i2.begin hp⟩, fun j v x hx ⟨j1, j2⟩ => ?_, fun v ⟨j1, j2⟩ => ⟨by rw [sizeLine_eq]; omega, fun z6 ez6 w6 ew6 => ⟨n - 1, by omega, j1, ?_, ?_⟩⟩⟩
   · have hx : (nxt t1 t2 z3)[j]? = some x := hx
     have few3 := prs_few j2.nd j2.inr
     have hxi := nxt_in T1 T2 hpi.1 hpi.2 hx
     have hj := (nxt_at T1 T2 hpi.1 hpi.2 hx).1
     have sl : v.2.2.length ≤ 7 := by
       have l6 := M1.l6
       rw [j2.steps, List.length_map, List.length_take]
       omega
     refine ⟨fun v2 => v2.1 = KM.prs 0 v2.2 ∧ x ∈ v2.2 ∧ SR t1 t2 v2.2 y.2.2 z3 (j + 1) (v.2.2 ++ [ixP v2.2 x]), ⟨fun e => ⟨?_, fun z7 ez7 => ⟨?_, fun z8 ez8 w8 ew8 => ?_⟩⟩, fun e => ?_⟩, fun v2 ⟨k1, k2, k3⟩ => ⟨?_, ?_, fun z8 ez8 w8 ew8 => ⟨k1, ?_⟩⟩⟩
     · rw [j1, prs_len, sizeLine_eq]; omega
     · rw [sizeLine_eq]; omega
     · have nm : x ∉ v.2.1 := fun c => by
         rw [j1, dget_prs 0 c] at e
         cases e
       have ew : w8 = v.2.1 ++ [x] := ew8.trans ez8
       refine ⟨?_, ?_, ?_⟩
       · show z7 = KM.prs 0 w8
         rw [ez7, ew, j1]
         exact prs_put nm
       · show x ∈ w8
         rw [ew]
         exact List.mem_append_right _ (List.mem_singleton.mpr rfl)
       · show SR t1 t2 w8 y.2.2 z3 (j + 1) (v.2.2 ++ [ixP w8 x])
         rw [ew]
         exact j2.new hx hxi nm
     · have mm : x ∈ v.2.1 := by
         apply Classical.byContradiction
         intro c
         rw [j1, prs_none 0 c] at e
         cases e
       exact ⟨j1, mm, j2.old hx mm⟩
     · rw [k1, dget_prs 0 k2]; rfl
     · rw [sizeLine_eq]; omega
     · show SR t1 t2 v2.2 y.2.2 z3 (j + 1) w8
       rw [ew8, ez8, k1, dget_ixP k2]
       exact k3
   · show SB t1 t2 v.2.1 w6
     rw [ew6, ez6]
     exact j2.done (Nat.le_refl _)
   · show n - 1 + w6.length = 65
     rw [ew6, ez6, List.length_append]
     show n - 1 + (y.2.2.length + 1) = _
     omega
abbrev s_alike_letters : Stmt := topS 14
theorem sc_alike_letters : FnScope ["one", "other"] ["one", "other"] (defScope s_alike_letters) := ⟨rfl, rfl, rfl, by decide +kernel, rfl, by decide +kernel, by decide +kernel⟩
def c_alike_letters (K : PySem.W.Frag) (C_Machine : Addr) (xa : XA) := Con.fx (K := K) xa (fun x : ((List Str × List (List Int) × List Int) × (List Str × List (List Int) × List Int)) => [.val (ty_Machine C_Machine) x.1, .val (ty_Machine C_Machine) x.2]) tN pre_alike_letters g_alike
theorem ok_alike_letters (bs : Bs mg) {xa : XA} {C_MeetError : Addr} (xs : Xs K mg xa C_MeetError) {C_Machine : Addr} (cl_Machine : Cl_Machine K C_Machine) {f : Addr} {fd : FuncData} (F : Fun K "alike_letters" "alike_letters" s_alike_letters f fd) : FnOk P w K mg base (L2.CX P w) 3 f fd ["one", "other"] (c_alike_letters K C_Machine xa).sp := by
  refine fn_con (c_alike_letters K C_Machine xa) F sc_alike_letters (fun _ => rfl) ?_
  intro cdv Ar outer s H E F0 a φ ε hr hp
  have hu := hu_of hr
  have sc := sc_alike_letters
  refine' SK.vc ?hh ?vc
  case hh =>
   refine' sk_seq (sk_if1 (pt_neV hr.units (dv_sv (dU (@dS K))) (dv_sv (dU (@dS K))) sv_stays (eqv_dec (dU (@dS K)) _ _) (PK.v (PK.uf (pk_fld cl_Machine.c cl_Machine.n_letters (PK.ins (pk_var (i := 0) rfl))))) (PK.v (PK.uf (pk_fld cl_Machine.c cl_Machine.n_letters (PK.ins (pk_var (i := 1) rfl)))))) ?a758 ?b759)
   case a758 =>
    exact sk_raise0 rfl xs.c_OtherLetters xs.w_OtherLetters (by first | exact fun _ h => kp0 h | exact fun _ h => h | exact fun _ h => List.mem_cons.mpr (Or.inl (List.mem_singleton.mp h)))
   case b759 =>
    refine' sk_nilX rfl ?k760
    case k760 =>
     exact sk_endFx
  case vc =>
   intro h
   simp only [true_and, and_true, yes1, yes2]
   obtain ⟨_, h1, h2⟩ := h
   refine ⟨fun e => h2 .otherLetters ?_, fun e => h1 () ?_⟩
   · have ne : ¬ a.1.1 = a.2.1 := fun c => by rw [decide_eq_true c] at e; cases e
     unfold g_alike
     rw [if_neg ne]
   · have eq : a.1.1 = a.2.1 := by
       cases q : decide (a.1.1 = a.2.1) with
       | true => exact of_decide_eq_true q
       | false => rw [q] at e; cases e
     unfold g_alike
     rw [if_pos eq]
abbrev s_both : Stmt := topS 15
theorem sc_both : FnScope ["one", "other", "pairs", "table", "good", "at", "pair"] ["one", "other"] (defScope s_both) := ⟨rfl, rfl, rfl, by decide +kernel, rfl, by decide +kernel, by decide +kernel⟩
def c_both (K : PySem.W.Frag) (C_Machine : Addr) (xa : XA) := Con.fx (K := K) xa (fun x : ((List Str × List (List Int) × List Int) × (List Str × List (List Int) × List Int)) => [.val (ty_Machine C_Machine) x.1, .val (ty_Machine C_Machine) x.2]) (ty_Machine C_Machine) pre_both g_both
theorem ok_both (bs : Bs mg) {xa : XA} {C_MeetError : Addr} (xs : Xs K mg xa C_MeetError) {C_Machine : Addr} (cl_Machine : Cl_Machine K C_Machine) {f_Machine_init : Addr} {fd_Machine_init : FuncData} (g_Machine_init : MkC P w K mg base C_Machine "Machine" 2 ["self", "letters", "table", "good"] (c_Machine_init K C_Machine).sp f_Machine_init fd_Machine_init) {f_alike_letters : Addr} {fd_alike_letters : FuncData} (g_alike_letters : Cal P w K mg base "alike_letters" 3 ["one", "other"] (c_alike_letters K C_Machine xa).sp f_alike_letters fd_alike_letters) {f_least : Addr} {fd_least : FuncData} (g_least : Cal P w K mg base "least" 4 ["machine"] (c_least K C_Machine).sp f_least fd_least) {f_side_by_side : Addr} {fd_side_by_side : FuncData} (g_side_by_side : Cal P w K mg base "side_by_side" 1 ["one", "other"] (c_side_by_side K C_Machine).sp f_side_by_side fd_side_by_side) {f : Addr} {fd : FuncData} (F : Fun K "both" "both" s_both f fd) : FnOk P w K mg base (L2.CX P w) 5 f fd ["one", "other"] (c_both K C_Machine xa).sp := by
  refine fn_con (c_both K C_Machine xa) F sc_both (fun _ => rfl) ?_
  intro cdv Ar outer s H E F0 a φ ε hr hp
  have hu := hu_of hr
  have sc := sc_both
  refine' SK.vc ?hh ?vc
  case hh =>
   refine' sk_expr (ek_fx g_alike_letters.F (slC sl1) (hr.mono (by decide)) g_alike_letters.m g_alike_letters.k g_alike_letters.b (PAK.ak (pa_C (pk_var (i := 0) rfl) (pa_1 (pk_var (i := 1) rfl)))) (fun _ => (by first | exact fun _ h => kp0 h | exact fun _ h => h | exact fun _ h => List.mem_cons.mpr (Or.inl (List.mem_singleton.mp h))))) ?k767
   case k767 =>
    intro y_1
    refine' sk_setG (gk_tup rfl (gs_C (gk_name (i := 2) (by exact sc.nd)) (gs_1 (gk_name (i := 3) (by exact sc.nd)))) (tlC tl1)) (ek_fp g_side_by_side.F (slC sl1) (hr.mono (by decide)) g_side_by_side.m g_side_by_side.k g_side_by_side.b (PAK.ak (pa_C (pk_var (i := 0) rfl) (pa_1 (pk_var (i := 1) rfl))))) ?k768
    case k768 =>
     intro y_2 z_3
     refine' sk_st (ρ2 := [.val (ty_Machine C_Machine) a.1, .val (ty_Machine C_Machine) a.2, .val (tL (tT (tsC tI (ts1 tI)))) z_3.1, .val (tL (tL tI)) z_3.2, .un, .un, .un]) (cs2 := []) rfl rfl ?k769
     case k769 =>
      refine' sk_setLc (i := 4) rfl (by exact sc.nd) (blkOk_by (own := [("at", 5), ("pair", 6)]) (N := ["one", "other", "pairs", "table", "good", "at", "pair"]) (sc := defScope s_both) (by decide +kernel)) ?lc128 ?k771
      case lc128 =>
       exact lc_k (own := [("at", 5), ("pair", 6)]) (T := (tT (tsC tI (ts1 (tT (tsC tI (ts1 tI))))))) (U := tI) (G := fun ρ x => (List.set (List.set ρ 5 (.val tI x.1)) 6 (.val (tT (tsC tI (ts1 tI))) x.2))) (vs := [5, 6]) (cs' := (fun _ : Unit => [])) (z0 := fun y => ()) (s1 := fun _ _ _ => ()) (s2 := fun _ _ _ _ => ()) (IK.ie (ik_enum bs.m_enumerate (pk_var (i := 2) rfl))) (fun _ => rfl) (by decide) (fun _ _ _ _ _ => (gk_tup rfl (gs_C (gk_name (i := 5) (by exact sc.nd)) (gs_1 (gk_name (i := 6) (by exact sc.nd)))) (tlC tl1))) (fun _ _ _ _ _ _ _ => (ts_1 (PTK.tk (PWK.pt (pw_and' (pt_in fI (pk_ixT Nth.here (pk_var (i := 6) rfl)) (PV.uq (PK.u (pk_fld cl_Machine.c cl_Machine.n_good (PK.ins (pk_var (i := 0) rfl)))))) (pw_and1' (pt_in fI (pk_ixT (Nth.next Nth.one) (pk_var (i := 6) rfl)) (PV.uq (PK.u (pk_fld cl_Machine.c cl_Machine.n_good (PK.ins (pk_var (i := 1) rfl)))))))))))) (fun _ _ _ _ _ _ _ _ => (PK.ek (pk_var (i := 5) rfl)))
      case k771 =>
       intro y_6 good_7
       refine' sk_st (ρ2 := [.val (ty_Machine C_Machine) a.1, .val (ty_Machine C_Machine) a.2, .val (tL (tT (tsC tI (ts1 tI)))) z_3.1, .val (tL (tL tI)) z_3.2, .val (tL tI) good_7, .un, .un]) (cs2 := []) rfl rfl ?k772
       case k772 =>
        exact sk_retXE (ek_fp g_least.F sl1 hr g_least.m g_least.k g_least.b (ak_1 (ek_makeS g_Machine_init (hr.mono (by decide)) (slC (slC sl1)) (PAK.ak (pa_C (NK.pk (nk_ct call_list_of bs.m_list bs.b_list n_list (PV.uq (PK.u (PK.uf (pk_fld cl_Machine.c cl_Machine.n_letters (PK.ins (pk_var (i := 0) rfl)))))))) (pa_C (pk_var (i := 3) rfl) (pa_1 (pk_var (i := 4) rfl)))))))) (fun _ => rfl)
  case vc =>
   intro h
   simp only [true_and, and_true, yes1, yes2]
   obtain ⟨⟨ls, t1, g1⟩, ls2, t2, g2⟩ := a
   obtain ⟨⟨h1, h2, hs⟩, hφ, hε⟩ := h
   refine ⟨trivial, fun _ hg => ?_, fun r hr => hε r ?_⟩
   rotate_left
   · have ne : ¬ ls = ls2 := fun c => by
       have q : g_alike ((ls, t1, g1), ls2, t2, g2) = .inl () := if_pos c
       rw [q] at hr
       cases hr
     have q : g_alike ((ls, t1, g1), ls2, t2, g2) = .inr .otherLetters := if_neg ne
     rw [q] at hr
     cases hr
     exact if_neg ne
   have he : ls = ls2 := Classical.byContradiction fun ne => by
     have q : g_alike ((ls, t1, g1), ls2, t2, g2) = .inr .otherLetters := if_neg ne
     rw [q] at hg
     cases hg
   subst he
   have M1 : TabOk ls t1 := h1.1
   have M2 : TabOk ls t2 := h2.1
   have T1 := tok_of M1
   have T2 := tok_of M2
   have hs : t1.length * t2.length ≤ 64 := hs
   refine ⟨⟨h1, h2, rfl, hs⟩, fun r hr z ez => ?_⟩
   subst ez
   obtain ⟨hS, hle⟩ := hr
   have hS : SB t1 t2 z.1 z.2 := hS
   obtain ⟨TP, n0, hlen, _⟩ := hS.done T1 T2 hle
   have few := prs_few hS.nd hS.inr
   try dsimp only
   refine ⟨fun i acc _ => acc = ((rng 0 (z.1.length : Int)).take i).filter (fun k => decide ((pyIx z.1 k).1 ∈ g1) && decide ((pyIx z.1 k).2 ∈ g2)), rfl, fun i acc _ x hx hI => ?_, fun acc _ hI z2 ez2 => ?_⟩
   · obtain ⟨e1, e2⟩ := enumF_get hx
     have hi := (List.getElem?_eq_some_iff.mp e2).1
     have hg := rng_eqI hi
     have px := pyIx_get e2
     dsimp only at hI
     refine ⟨fun _ => trivial, fun c => ?_, fun c => ?_⟩
     · show acc ++ [x.1] = _
       rw [e1, filt_yes hg (by rw [px]; exact c), hI]
     · show acc = _
       rw [filt_no hg (by rw [px]; exact c), hI]
   dsimp only at hI
   rw [enumF_length] at hI
   have ez2 : z2 = gdP (fun x y => x && y) g1 g2 z.1 := by
     rw [ez2, hI, List.take_of_length_le (by rw [rng_len]; exact Nat.le_refl _)]
     rfl
   have ok : MaOk (ls, z.2, z2) := ⟨⟨fun (c : z.2 = []) => by rw [c] at n0; exact absurd n0.2 (by decide), by show z.2.length ≤ 64; omega, M1.lne, M1.l6, M1.nd, M1.w, TP.len, TP.goal⟩, by rw [ez2]; exact gdP_good hlen⟩
   refine ⟨ok, fun r er => ?_⟩
   have er : r = (ls, z.2, z2) := er
   rw [er]
   refine ⟨ok, fun r1 hr1 => hφ r1 ?_⟩
   obtain ⟨q1, q2, q3, q4, _⟩ := hr1
   have q1 : r1.1 = ls := q1
   have q3 : IsM ls.length r1.2.1 r1.2.2 := q3
   have q4 : KM.Same ls.length z.2 z2 r1.2.1 r1.2.2 := q4
   have key : bothM ((ls, t1, g1), ls, t2, g2) = r1 := formL_eq ⟨q1, q2, q3, fun w hw => by
     refine (q4 w hw).symm.trans ?_
     rw [ez2, gdP_acc T1 T2 hS hle hw]
     show (decide (runT t1 0 w ∈ g1) && decide (runT t2 0 w ∈ g2)) = true ↔ (runT t1 0 w ∈ g1 ∧ runT t2 0 w ∈ g2)
     rw [Bool.and_eq_true, decide_eq_true_iff, decide_eq_true_iff]⟩
   show g_both ((ls, t1, g1), ls, t2, g2) = .inl r1
   rw [← key]
   exact if_pos rfl
abbrev s_either : Stmt := topS 16
theorem sc_either : FnScope ["one", "other", "pairs", "table", "good", "at", "pair"] ["one", "other"] (defScope s_either) := ⟨rfl, rfl, rfl, by decide +kernel, rfl, by decide +kernel, by decide +kernel⟩
def c_either (K : PySem.W.Frag) (C_Machine : Addr) (xa : XA) := Con.fx (K := K) xa (fun x : ((List Str × List (List Int) × List Int) × (List Str × List (List Int) × List Int)) => [.val (ty_Machine C_Machine) x.1, .val (ty_Machine C_Machine) x.2]) (ty_Machine C_Machine) pre_both g_either
theorem ok_either (bs : Bs mg) {xa : XA} {C_MeetError : Addr} (xs : Xs K mg xa C_MeetError) {C_Machine : Addr} (cl_Machine : Cl_Machine K C_Machine) {f_Machine_init : Addr} {fd_Machine_init : FuncData} (g_Machine_init : MkC P w K mg base C_Machine "Machine" 2 ["self", "letters", "table", "good"] (c_Machine_init K C_Machine).sp f_Machine_init fd_Machine_init) {f_alike_letters : Addr} {fd_alike_letters : FuncData} (g_alike_letters : Cal P w K mg base "alike_letters" 3 ["one", "other"] (c_alike_letters K C_Machine xa).sp f_alike_letters fd_alike_letters) {f_least : Addr} {fd_least : FuncData} (g_least : Cal P w K mg base "least" 4 ["machine"] (c_least K C_Machine).sp f_least fd_least) {f_side_by_side : Addr} {fd_side_by_side : FuncData} (g_side_by_side : Cal P w K mg base "side_by_side" 1 ["one", "other"] (c_side_by_side K C_Machine).sp f_side_by_side fd_side_by_side) {f : Addr} {fd : FuncData} (F : Fun K "either" "either" s_either f fd) : FnOk P w K mg base (L2.CX P w) 5 f fd ["one", "other"] (c_either K C_Machine xa).sp := by
  refine fn_con (c_either K C_Machine xa) F sc_either (fun _ => rfl) ?_
  intro cdv Ar outer s H E F0 a φ ε hr hp
  have hu := hu_of hr
  have sc := sc_either
  refine' SK.vc ?hh ?vc
  case hh =>
   refine' sk_expr (ek_fx g_alike_letters.F (slC sl1) (hr.mono (by decide)) g_alike_letters.m g_alike_letters.k g_alike_letters.b (PAK.ak (pa_C (pk_var (i := 0) rfl) (pa_1 (pk_var (i := 1) rfl)))) (fun _ => (by first | exact fun _ h => kp0 h | exact fun _ h => h | exact fun _ h => List.mem_cons.mpr (Or.inl (List.mem_singleton.mp h))))) ?k779
   case k779 =>
    intro y_1
    refine' sk_setG (gk_tup rfl (gs_C (gk_name (i := 2) (by exact sc.nd)) (gs_1 (gk_name (i := 3) (by exact sc.nd)))) (tlC tl1)) (ek_fp g_side_by_side.F (slC sl1) (hr.mono (by decide)) g_side_by_side.m g_side_by_side.k g_side_by_side.b (PAK.ak (pa_C (pk_var (i := 0) rfl) (pa_1 (pk_var (i := 1) rfl))))) ?k780
    case k780 =>
     intro y_2 z_3
     refine' sk_st (ρ2 := [.val (ty_Machine C_Machine) a.1, .val (ty_Machine C_Machine) a.2, .val (tL (tT (tsC tI (ts1 tI)))) z_3.1, .val (tL (tL tI)) z_3.2, .un, .un, .un]) (cs2 := []) rfl rfl ?k781
     case k781 =>
      refine' sk_setLc (i := 4) rfl (by exact sc.nd) (blkOk_by (own := [("at", 5), ("pair", 6)]) (N := ["one", "other", "pairs", "table", "good", "at", "pair"]) (sc := defScope s_either) (by decide +kernel)) ?lc129 ?k783
      case lc129 =>
       exact lc_k (own := [("at", 5), ("pair", 6)]) (T := (tT (tsC tI (ts1 (tT (tsC tI (ts1 tI))))))) (U := tI) (G := fun ρ x => (List.set (List.set ρ 5 (.val tI x.1)) 6 (.val (tT (tsC tI (ts1 tI))) x.2))) (vs := [5, 6]) (cs' := (fun _ : Unit => [])) (z0 := fun y => ()) (s1 := fun _ _ _ => ()) (s2 := fun _ _ _ _ => ()) (IK.ie (ik_enum bs.m_enumerate (pk_var (i := 2) rfl))) (fun _ => rfl) (by decide) (fun _ _ _ _ _ => (gk_tup rfl (gs_C (gk_name (i := 5) (by exact sc.nd)) (gs_1 (gk_name (i := 6) (by exact sc.nd)))) (tlC tl1))) (fun _ _ _ _ _ _ _ => (ts_1 (PTK.tk (PWK.pt (pw_or' (pt_in fI (pk_ixT Nth.here (pk_var (i := 6) rfl)) (PV.uq (PK.u (pk_fld cl_Machine.c cl_Machine.n_good (PK.ins (pk_var (i := 0) rfl)))))) (pw_or1' (pt_in fI (pk_ixT (Nth.next Nth.one) (pk_var (i := 6) rfl)) (PV.uq (PK.u (pk_fld cl_Machine.c cl_Machine.n_good (PK.ins (pk_var (i := 1) rfl)))))))))))) (fun _ _ _ _ _ _ _ _ => (PK.ek (pk_var (i := 5) rfl)))
      case k783 =>
       intro y_6 good_7
       refine' sk_st (ρ2 := [.val (ty_Machine C_Machine) a.1, .val (ty_Machine C_Machine) a.2, .val (tL (tT (tsC tI (ts1 tI)))) z_3.1, .val (tL (tL tI)) z_3.2, .val (tL tI) good_7, .un, .un]) (cs2 := []) rfl rfl ?k784
       case k784 =>
        exact sk_retXE (ek_fp g_least.F sl1 hr g_least.m g_least.k g_least.b (ak_1 (ek_makeS g_Machine_init (hr.mono (by decide)) (slC (slC sl1)) (PAK.ak (pa_C (NK.pk (nk_ct call_list_of bs.m_list bs.b_list n_list (PV.uq (PK.u (PK.uf (pk_fld cl_Machine.c cl_Machine.n_letters (PK.ins (pk_var (i := 0) rfl)))))))) (pa_C (pk_var (i := 3) rfl) (pa_1 (pk_var (i := 4) rfl)))))))) (fun _ => rfl)
  case vc =>
   intro h
   simp only [true_and, and_true, yes1, yes2]
   obtain ⟨⟨ls, t1, g1⟩, ls2, t2, g2⟩ := a
   obtain ⟨⟨h1, h2, hs⟩, hφ, hε⟩ := h
   refine ⟨trivial, fun _ hg => ?_, fun r hr => hε r ?_⟩
   rotate_left
   · have ne : ¬ ls = ls2 := fun c => by
       have q : g_alike ((ls, t1, g1), ls2, t2, g2) = .inl () := if_pos c
       rw [q] at hr
       cases hr
     have q : g_alike ((ls, t1, g1), ls2, t2, g2) = .inr .otherLetters := if_neg ne
     rw [q] at hr
     cases hr
     exact if_neg ne
   have he : ls = ls2 := Classical.byContradiction fun ne => by
     have q : g_alike ((ls, t1, g1), ls2, t2, g2) = .inr .otherLetters := if_neg ne
     rw [q] at hg
     cases hg
   subst he
   have M1 : TabOk ls t1 := h1.1
   have M2 : TabOk ls t2 := h2.1
   have T1 := tok_of M1
   have T2 := tok_of M2
   have hs : t1.length * t2.length ≤ 64 := hs
   refine ⟨⟨h1, h2, rfl, hs⟩, fun r hr z ez => ?_⟩
   subst ez
   obtain ⟨hS, hle⟩ := hr
   have hS : SB t1 t2 z.1 z.2 := hS
   obtain ⟨TP, n0, hlen, _⟩ := hS.done T1 T2 hle
   have few := prs_few hS.nd hS.inr
   try dsimp only
   refine ⟨fun i acc _ => acc = ((rng 0 (z.1.length : Int)).take i).filter (fun k => decide ((pyIx z.1 k).1 ∈ g1) || decide ((pyIx z.1 k).2 ∈ g2)), rfl, fun i acc _ x hx hI => ?_, fun acc _ hI z2 ez2 => ?_⟩
   · obtain ⟨e1, e2⟩ := enumF_get hx
     have hi := (List.getElem?_eq_some_iff.mp e2).1
     have hg := rng_eqI hi
     have px := pyIx_get e2
     dsimp only at hI
     refine ⟨fun _ => trivial, fun c => ?_, fun c => ?_⟩
     · show acc ++ [x.1] = _
       rw [e1, filt_yes hg (by rw [px]; exact c), hI]
     · show acc = _
       rw [filt_no hg (by rw [px]; exact c), hI]
   dsimp only at hI
   rw [enumF_length] at hI
   have ez2 : z2 = gdP (fun x y => x || y) g1 g2 z.1 := by
     rw [ez2, hI, List.take_of_length_le (by rw [rng_len]; exact Nat.le_refl _)]
     rfl
   have ok : MaOk (ls, z.2, z2) := ⟨⟨fun (c : z.2 = []) => by rw [c] at n0; exact absurd n0.2 (by decide), by show z.2.length ≤ 64; omega, M1.lne, M1.l6, M1.nd, M1.w, TP.len, TP.goal⟩, by rw [ez2]; exact gdP_good hlen⟩
   refine ⟨ok, fun r er => ?_⟩
   have er : r = (ls, z.2, z2) := er
   rw [er]
   refine ⟨ok, fun r1 hr1 => hφ r1 ?_⟩
   obtain ⟨q1, q2, q3, q4, _⟩ := hr1
   have q1 : r1.1 = ls := q1
   have q3 : IsM ls.length r1.2.1 r1.2.2 := q3
   have q4 : KM.Same ls.length z.2 z2 r1.2.1 r1.2.2 := q4
   have key : eitherM ((ls, t1, g1), ls, t2, g2) = r1 := formL_eq ⟨q1, q2, q3, fun w hw => by
     refine (q4 w hw).symm.trans ?_
     rw [ez2, gdP_acc T1 T2 hS hle hw]
     show (decide (runT t1 0 w ∈ g1) || decide (runT t2 0 w ∈ g2)) = true ↔ (runT t1 0 w ∈ g1 ∨ runT t2 0 w ∈ g2)
     rw [Bool.or_eq_true, decide_eq_true_iff, decide_eq_true_iff]⟩
   show g_either ((ls, t1, g1), ls, t2, g2) = .inl r1
   rw [← key]
   exact if_pos rfl
abbrev s_turned : Stmt := topS 17
theorem sc_turned : FnScope ["machine", "good", "state"] ["machine"] (defScope s_turned) := ⟨rfl, rfl, rfl, by decide +kernel, rfl, by decide +kernel, by decide +kernel⟩
def c_turned (K : PySem.W.Frag) (C_Machine : Addr) := Con.fp (K := K) (fun x : (List Str × List (List Int) × List Int) => [.val (ty_Machine C_Machine) x]) (ty_Machine C_Machine) pre_turned post_turned
theorem ok_turned (bs : Bs mg) {C_Machine : Addr} (cl_Machine : Cl_Machine K C_Machine) {f_Machine_init : Addr} {fd_Machine_init : FuncData} (g_Machine_init : MkC P w K mg base C_Machine "Machine" 2 ["self", "letters", "table", "good"] (c_Machine_init K C_Machine).sp f_Machine_init fd_Machine_init) {f_Machine_initU : Addr} {fd_Machine_initU : FuncData} (g_Machine_initU : MkC P w K mg base C_Machine "Machine" 2 ["self", "letters", "table", "good"] (c_Machine_initU K C_Machine).sp f_Machine_initU fd_Machine_initU) {f_least : Addr} {fd_least : FuncData} (g_least : Cal P w K mg base "least" 4 ["machine"] (c_least K C_Machine).sp f_least fd_least) {f : Addr} {fd : FuncData} (F : Fun K "turned" "turned" s_turned f fd) : FnOk P w K mg base (L2.CX P w) 5 f fd ["machine"] (c_turned K C_Machine).sp := by
  refine fn_con (c_turned K C_Machine) F sc_turned (fun _ => rfl) ?_
  intro cdv Ar outer s H E F0 a φ ε hr hp
  have hu := hu_of hr
  have sc := sc_turned
  refine' SK.vc ?hh ?vc
  case hh =>
   refine' sk_setLc (i := 1) rfl (by exact sc.nd) (blkOk_by (own := [("state", 2)]) (N := ["machine", "good", "state"]) (sc := defScope s_turned) (by decide +kernel)) ?lc130 ?k789
   case lc130 =>
    exact lc_k (own := [("state", 2)]) (T := tI) (U := tI) (G := fun ρ x => (List.set ρ 2 (.val tI x))) (vs := [2]) (cs' := (fun _ : Unit => [])) (z0 := fun y => ()) (s1 := fun _ _ _ => ()) (s2 := fun _ _ _ _ => ()) (IK.ie (ik_range1 bs.m_range (PV.k (pv_cb cr_lenQ bs.m_len bs.b_len u_len (PV.uq (PK.u (pk_fld cl_Machine.c cl_Machine.n_table (PK.ins (pk_var (i := 0) rfl))))))))) (fun _ => rfl) (by decide) (fun _ _ _ _ _ => (gk_name (i := 2) (by exact sc.nd))) (fun _ _ _ _ _ _ _ => (ts_1 (PTK.tk (pt_nin fI (pk_var (i := 2) rfl) (PV.uq (PK.u (pk_fld cl_Machine.c cl_Machine.n_good (PK.ins (pk_var (i := 0) rfl))))))))) (fun _ _ _ _ _ _ _ _ => (PK.ek (pk_var (i := 2) rfl)))
   case k789 =>
    intro y_3 good_4
    refine' sk_st (ρ2 := [.val (ty_Machine C_Machine) a, .val (tL tI) good_4, .un]) (cs2 := []) rfl rfl ?k790
    case k790 =>
     exact sk_retPE (ek_fp g_least.F sl1 hr g_least.m g_least.k g_least.b (ak_1 (ek_makeS g_Machine_initU (hr.mono (by decide)) (slC (slC sl1)) (PAK.ak (pa_C (NK.pk (nk_ct call_list_of bs.m_list bs.b_list n_list (PV.uq (PK.u (PK.uf (pk_fld cl_Machine.c cl_Machine.n_letters (PK.ins (pk_var (i := 0) rfl)))))))) (pa_C (NK.pk (nk_ct call_list_of bs.m_list bs.b_list n_list (PV.uq (PK.u (pk_fld cl_Machine.c cl_Machine.n_table (PK.ins (pk_var (i := 0) rfl))))))) (pa_1 (pk_var (i := 1) rfl)))))))) (fun _ => rfl)
  case vc =>
   intro h
   simp only [true_and, and_true, yes1, yes2]
   obtain ⟨ls, tab, good⟩ := a
   obtain ⟨hM, hφ⟩ := h
   have hT : TabOk ls tab := hM.1
   have few : tab.length ≤ 64 := hT.few
   have pos : 0 < tab.length := List.length_pos_iff.mpr hT.ne
   try dsimp only
   refine ⟨⟨by omega, by omega⟩, fun i acc _ => acc = ((rng 0 (tab.length : Int)).take i).filter (fun k => !decide (k ∈ good)), rfl, fun i acc _ x hx hI => ?_, fun acc _ hI z ez => ?_⟩
   · dsimp only at hI
     refine ⟨fun c => ?_, fun c => ?_⟩
     · show acc ++ [x] = _
       rw [filt_yes hx c, hI]
     · show acc = _
       rw [filt_no hx c, hI]
   dsimp only at hI
   rw [List.take_length] at hI
   have ez : z = (rng 0 (tab.length : Int)).filter (fun k => !decide (k ∈ good)) := ez.trans hI
   have ok : MaOk (ls, tab, z) := ⟨hT, by rw [ez]; exact good_of ((rng_pw _).filter _) fun g hg => KN.rng_mem (List.mem_filter.mp hg).1⟩
   refine ⟨ok, fun r er => ?_⟩
   have er : r = (ls, tab, z) := er
   rw [er]
   refine ⟨ok, fun r1 hr1 => hφ r1 ?_⟩
   obtain ⟨q1, q2, q3, q4, q5⟩ := hr1
   refine ⟨⟨q1, q2, q3, fun w hw => ?_⟩, q5⟩
   refine ((q4 w hw).symm).trans ?_
   have hi := run_in (tok_of hT) (s := 0) ⟨Int.le_refl 0, by omega⟩ hw
   show runT tab 0 w ∈ z ↔ ¬ runT tab 0 w ∈ good
   rw [ez, List.mem_filter]
   refine ⟨fun q c => ?_, fun q => ⟨KN.rng_memI hi.1 hi.2, by rw [decide_eq_false q]; rfl⟩⟩
   have q2 := q.2
   rw [decide_eq_true c] at q2
   cases q2
abbrev s_machine : Stmt := topS 23
theorem sc_machine : FnScope ["_law_flow_here", "_law_many", "_law_letters", "_law_table", "_law_state", "_law_letter"] ["_law_flow_here", "_law_many", "_law_letters"] (defScope s_machine) := ⟨rfl, rfl, rfl, by decide +kernel, rfl, by decide +kernel, by decide +kernel⟩
def c_machine (K : PySem.W.Frag) := Con.o1 (K := K) tI (fun x : (Int × (List Str)) => [.val tI x.1, .val (tL tS) x.2]) (tT (tsC (tL (tL tI)) (ts1 (tL tI)))) pre_machine post_machine
theorem ok_machine (bs : Bs mg) {f_draw : Addr} {fd_draw : FuncData} (g_draw : Cal P w K mg base "_law_draw" 1 ["_law_flow_here", "_law_many"] (c_draw K).sp f_draw fd_draw) {f : Addr} {fd : FuncData} (F : Fun K "_law_machine" "_law_machine" s_machine f fd) : FnOk P w K mg base (L2.CX P w) 2 f fd ["_law_flow_here", "_law_many", "_law_letters"] (c_machine K).sp := by
  refine fn_con (c_machine K) F sc_machine (fun _ => rfl) ?_
  intro cdv Ar outer s H E F0 a φ ε hr hp
  have hu := hu_of hr
  have sc := sc_machine
  refine' SK.vc ?hh ?vc
  case hh =>
   refine' sk_setLc (i := 3) rfl (by exact sc.nd) (blkOk_by (own := [("_law_state", 4)]) (N := ["_law_flow_here", "_law_many", "_law_letters", "_law_table", "_law_state", "_law_letter"]) (sc := defScope s_machine) (by decide +kernel)) ?lc134 ?k804
   case lc134 =>
    refine' lc_k (own := [("_law_state", 4)]) (T := tI) (U := (tL tI)) (G := fun ρ x => (List.set ρ 4 (.val tI x))) (vs := [4]) (cs' := (fun c_1 : List Int => [⟨a.1, cL tI c_1⟩])) (z0 := fun y => _) (IK.ie (ik_range1 bs.m_range (pk_var (i := 1) rfl))) (fun _ => rfl) (by decide) (fun _ _ _ _ _ => (gk_name (i := 4) (by exact sc.nd))) (fun _ _ _ _ _ _ _ => ts_0) (fun _ _ _ _ _ _ _ _ => (NE.ek (ne_lc rfl (by exact sc.nd) ?lc132 ?lc131 ?lc133)))
    case lc132 =>
     exact blkIn_by (own := [("_law_letter", 5)]) (N := ["_law_flow_here", "_law_many", "_law_letters", "_law_table", "_law_state", "_law_letter"]) (sc := defScope s_machine) rfl rfl (by decide +kernel)
    case lc131 =>
     exact lc_k (own := [("_law_letter", 5)]) (T := tS) (U := tI) (G := fun ρ x => (List.set ρ 5 (.val tS x))) (vs := [5]) (cs' := (fun c_3 : List Int => [⟨a.1, cL tI c_3⟩])) (z0 := fun y => _) (IK.ie (ik_list (pk_var (i := 2) rfl))) (fun _ => rfl) (by decide) (fun _ _ _ _ _ => (gk_name (i := 5) (by exact sc.nd))) (fun _ _ _ _ _ _ _ => ts_0) (fun _ _ _ _ _ _ _ _ => (ek_o1 0 g_draw.F sl1 hr g_draw.m g_draw.k g_draw.b (pk_var (i := 0) rfl) (PAK.ak (pa_1 (pk_var (i := 1) rfl))) (fun _ => rfl)))
    case lc133 =>
     exact fun _ => rfl
   case k804 =>
    intro y_5 table_6
    refine' sk_name 0 rfl ?k808
    case k808 =>
     intro w_7
     refine' sk_st (ρ2 := [.val tR a.1, .val tI a.2.2.1, .val (tL tS) a.2.2.2, .val (tL (tL tI)) table_6, .un, .un]) (cs2 := [⟨a.1, cL tI w_7⟩]) rfl rfl ?k809
     case k809 =>
      refine' sk_st (ρ2 := [.val tR a.1, .val tI a.2.2.1, .val (tL tS) a.2.2.2, .val (tL (tL tI)) table_6, .un, .un]) (cs2 := [⟨a.1, cL tI w_7⟩]) rfl rfl ?k810
      case k810 =>
       refine' sk_retOE (ek_tup (ak_C (PK.ek (pk_var (i := 3) rfl)) (fun _ => (ak_1 (NE.ek (ne_lc rfl (by exact sc.nd) ?lc136 ?lc135 ?lc137))))) (lenC len1)) ?lc138
       case lc136 =>
        exact blkOk_by (own := [("_law_state", 4)]) (N := ["_law_flow_here", "_law_many", "_law_letters", "_law_table", "_law_state", "_law_letter"]) (sc := defScope s_machine) (by decide +kernel)
       case lc135 =>
        exact lc_k (own := [("_law_state", 4)]) (T := tI) (U := tI) (G := fun ρ x => (List.set ρ 4 (.val tI x))) (vs := [4]) (cs' := (fun c_8 : List Int => [⟨a.1, cL tI c_8⟩])) (z0 := fun y => _) (IK.ie (ik_range1 bs.m_range (pk_var (i := 1) rfl))) (fun _ => rfl) (by decide) (fun _ _ _ _ _ => (gk_name (i := 4) (by exact sc.nd))) (fun _ _ _ _ _ _ _ => (ts_1 (tk_cmp op_eq r2_eqI (ek_o1 0 g_draw.F sl1 hr g_draw.m g_draw.k g_draw.b (pk_var (i := 0) rfl) (PAK.ak (pa_1 pk_int)) (fun _ => rfl)) (fun _ => (PK.ek pk_int))))) (fun _ _ _ _ _ _ _ _ => (PK.ek (pk_var (i := 4) rfl)))
       case lc137 =>
        exact fun _ => rfl
       case lc138 =>
        exact fun _ => rfl
  case vc =>
   intro h
   simp only [true_and, and_true, yes1, yes2]
   obtain ⟨p, fl, n, ls⟩ := a
   obtain ⟨⟨hf, n0, n1, h6⟩, hφ⟩ := h
   have hf : Fl fl := hf
   have n0 : 1 ≤ n := n0
   have n1 : n ≤ 24 := n1
   try dsimp only at hφ
   try dsimp only
   refine ⟨⟨by omega, by omega⟩, fun i acc z => Fl z ∧ acc.length = i ∧ ∀ r ∈ acc, r.length = ls.length ∧ ∀ g ∈ r, 0 ≤ g ∧ g < n, ⟨hf, rfl, fun r hr => (by cases hr)⟩, fun i acc z x hx ⟨i1, i2, i3⟩ => ⟨fun _ => ⟨fun j acc z => Fl z ∧ acc.length = j ∧ ∀ g ∈ acc, 0 ≤ g ∧ g < n, ⟨i1, rfl, fun r hr => (by cases hr)⟩, fun j acc z y hy ⟨j1, j2, j3⟩ => ⟨fun _ => ⟨⟨j1, by omega, by omega⟩, fun r w ⟨r0, r1, f⟩ => ⟨f, by rw [List.length_append, j2]; rfl, fun g hg => ?_⟩⟩, fun e => (by cases e)⟩, fun acc1 z ⟨j1, j2, j3⟩ => ⟨j1, by rw [List.length_append, i2]; rfl, fun r hr => ?_⟩⟩, fun e => (by cases e)⟩, fun acc z ⟨i1, i2, i3⟩ tab etab w5 ew5 => ⟨⟨by omega, by omega⟩, fun i acc z => Fl z ∧ acc.Pairwise (· < ·) ∧ ∀ g ∈ acc, 0 ≤ g ∧ g < (i : Int), ⟨by rw [ew5]; exact i1, List.Pairwise.nil, fun g hg => (by cases hg)⟩, fun i acc z x hx ⟨k1, k2, k3⟩ => ⟨⟨k1, by omega, by omega⟩, fun r w ⟨r0, r1, f⟩ => ⟨fun _ => ?_, fun _ => ⟨f, k2, fun g hg => by have := k3 g hg; omega⟩⟩⟩, fun acc2 z2 ⟨k1, k2, k3⟩ => hφ _ _ ?_⟩⟩
   · rcases List.mem_append.mp hg with h | h
     · exact j3 g h
     · rw [List.mem_singleton.mp h]; exact ⟨r0, r1⟩
   · rcases List.mem_append.mp hr with h | h
     · exact i3 r h
     · rw [List.mem_singleton.mp h]
       exact ⟨j2, j3⟩
   · obtain ⟨ex, hxi⟩ := rng_get hx
     refine ⟨f, List.pairwise_append.mpr ⟨k2, List.pairwise_singleton _ _, fun g hg y hy => ?_⟩, fun g hg => ?_⟩
     · rw [List.mem_singleton.mp hy]
       have := k3 g hg
       omega
     · rcases List.mem_append.mp hg with h | h
       · have := k3 g h
         omega
       · rw [List.mem_singleton.mp h]
         omega
   · have htl : (tab.length : Int) = n := by
       rw [etab, i2, rng_length]
       omega
     refine ⟨k1, htl, by rw [etab]; exact i3, good_of k2 fun g hg => ?_⟩
     have := k3 g hg
     rw [rng_length] at this
     show 0 ≤ g ∧ g < (tab.length : Int)
     omega
abbrev s_is_least : Stmt := topS 25
theorem sc_is_least : FnScope ["_law_machine_here", "_law_table", "_law_come", "_law_at", "_law_steps", "_law_goal"] ["_law_machine_here"] (defScope s_is_least) := ⟨rfl, rfl, rfl, by decide +kernel, rfl, by decide +kernel, by decide +kernel⟩
def c_is_least (K : PySem.W.Frag) (C_Machine : Addr) := Con.fn (K := K) (fun x : (List Str × List (List Int) × List Int) => [.val (ty_Machine C_Machine) x]) tB pre_is_least f_is_least
theorem ok_is_least (bs : Bs mg) {C_Machine : Addr} (cl_Machine : Cl_Machine K C_Machine) {f_lclasses : Addr} {fd_lclasses : FuncData} (g_lclasses : Cal P w K mg base "_law_classes" 1 ["_law_table", "_law_good"] (c_lclasses K).sp f_lclasses fd_lclasses) {f : Addr} {fd : FuncData} (F : Fun K "_law_is_least" "_law_is_least" s_is_least f fd) : FnOk P w K mg base (L2.CX P w) 2 f fd ["_law_machine_here"] (c_is_least K C_Machine).sp := by
  refine fn_con (c_is_least K C_Machine) F sc_is_least (fun _ => rfl) ?_
  intro cdv Ar outer s H E F0 a φ ε hr hp
  have hu := hu_of hr
  have sc := sc_is_least
  refine' SK.vc ?hh ?vc
  case hh =>
   refine' sk_parN (i := 1) (j := 2) rfl (by exact sc.nd) (ak_C (PK.ek (pk_fld cl_Machine.c cl_Machine.n_table (PK.ins (pk_var (i := 0) rfl)))) (fun _ => (ak_1 (NE.own (NK.ne (nk_lst (pl_C pk_int pl_0) (Nat.le_of_ble_eq_true rfl))))))) ?k841
   case k841 =>
    intro y_1 z_2
    refine' sk_st (ρ2 := [.val (ty_Machine C_Machine) a, .val (tU (tU tI)) z_2, .val tR y_1.2.2.1, .un, .un, .un]) (cs2 := [⟨y_1.2.2.1, cL tI y_1.2.2.2⟩]) rfl rfl ?k842
    case k842 =>
     refine' sk_name 0 rfl ?k843
     case k843 =>
      intro w_3
      refine' sk_st (ρ2 := [.val (ty_Machine C_Machine) a, .val (tU (tU tI)) z_2, .val tR y_1.2.2.1, .un, .un, .un]) (cs2 := [⟨y_1.2.2.1, cL tI w_3⟩]) rfl rfl ?k844
      case k844 =>
       refine' sk_for (fun z_4 : List Int => [.val (ty_Machine C_Machine) a, .val (tU (tU tI)) z_2, .val tR y_1.2.2.1, .un, .un, .un]) (fun z_4 : List Int => [⟨y_1.2.2.1, cL tI z_4⟩]) _ hp rfl (ik_enumT bs.m_enumerate (pk_var (i := 1) rfl)) (gk_tup rfl (gs_C (gk_name (i := 3) (by exact sc.nd)) (gs_1 (gk_name (i := 4) (by exact sc.nd)))) (tlC tl1)) (.same (.same (.same (.same (.same (.same .nil)))))) rfl ?b845 ?k846
       case b845 =>
        intro fl_8 hs_7 N_6 z_4 x_5
        refine' sk_st (ρ2 := [.val (ty_Machine C_Machine) a, .val (tU (tU tI)) z_2, .val tR y_1.2.2.1, .val tI x_5.1, .val (tU tI) x_5.2, .un]) (cs2 := [⟨y_1.2.2.1, cL tI z_4⟩]) rfl rfl ?k847
        case k847 =>
         refine' sk_for (fun z_9 : List Int => [.val (ty_Machine C_Machine) a, .val (tU (tU tI)) z_2, .val tR y_1.2.2.1, .val tI x_5.1, .val (tU tI) x_5.2, .un]) (fun z_9 : List Int => [⟨y_1.2.2.1, cL tI z_9⟩]) _ hp rfl (ik_tup (pk_var (i := 4) rfl)) (gk_name (i := 5) (by exact sc.nd)) (.same (.same (.same (.same (.same (.same .nil)))))) rfl ?b848 ?k849
         case b848 =>
          intro fl_13 hs_12 N_11 z_9 x_10
          refine' sk_st (ρ2 := [.val (ty_Machine C_Machine) a, .val (tU (tU tI)) z_2, .val tR y_1.2.2.1, .val tI x_5.1, .val (tU tI) x_5.2, .val tI x_10]) (cs2 := [⟨y_1.2.2.1, cL tI z_9⟩]) rfl rfl ?k850
          case k850 =>
           refine' sk_seq (sk_if1 (PWK.pt (pw_or' (pt_cmp' op_ge r2_B0 (pk_var (i := 3) rfl) (PV.k (pv_cb cr_lenQ bs.m_len bs.b_len u_len (PV.q (PK.own 0 (pk_var (i := 2) rfl) rfl))))) (pw_or1' (pt_not' (pt_chain' op_le r2_B0 op_le r2_B0 pk_int (pk_var (i := 5) rfl) (PV.k (pv_cb cr_lenQ bs.m_len bs.b_len u_len (PV.q (PK.own 0 (pk_var (i := 2) rfl) rfl))))))))) ?a851 ?b852)
           case a851 =>
            refine' sk_drop 0 ?k853
            case k853 =>
             refine' sk_st (ρ2 := [.val (ty_Machine C_Machine) a, .val (tU (tU tI)) z_2, .val tR y_1.2.2.1, .val tI x_5.1, .val (tU tI) x_5.2, .val tI x_10]) (cs2 := []) rfl rfl ?k854
             case k854 =>
              exact sk_retF pk_bl
           case b852 =>
            refine' sk_nilX rfl ?k855
            case k855 =>
             refine' sk_seq (sk_if1 (pt_cmp' op_eq r2_eqI (pk_var (i := 5) rfl) (PV.k (pv_cb cr_lenQ bs.m_len bs.b_len u_len (PV.q (PK.own 0 (pk_var (i := 2) rfl) rfl))))) ?a856 ?b857)
             case a856 =>
              refine' sk_expr (ek_mL PySem.F.slot_list_append PySem.F.type_list_append mt_append ml_append 0 (pk_var (i := 2) rfl) (ak_1 (PK.ek (pk_var (i := 5) rfl))) (fun _ => rfl) ⟨_, rfl⟩) ?k858
              case k858 =>
               intro y_14
               refine' sk_name 0 rfl ?k859
               case k859 =>
                intro w_15
                refine' sk_st (ρ2 := [.val (ty_Machine C_Machine) a, .val (tU (tU tI)) z_2, .val tR y_1.2.2.1, .val tI x_5.1, .val (tU tI) x_5.2, .val tI x_10]) (cs2 := [⟨y_1.2.2.1, cL tI w_15⟩]) rfl rfl ?k860
                case k860 =>
                 refine' sk_nilX rfl ?k861
                 case k861 =>
                  exact sk_midX (z := _) rfl (.same (.same (.same (.same (.same (.un .nil)))))) rfl
             case b857 =>
              refine' sk_nilX rfl ?k862
              case k862 =>
               exact sk_midX (z := _) rfl (.same (.same (.same (.same (.same (.un .nil)))))) rfl
         case k849 =>
          intro z_9
          exact sk_midX (z := _) rfl (.same (.same (.same (.un (.un (.same .nil)))))) rfl
       case k846 =>
        intro z_4
        refine' sk_freeze 0 2 rfl rfl rfl (Nat.le_of_ble_eq_true rfl) ?k863
        case k863 =>
         refine' sk_st (ρ2 := [.val (ty_Machine C_Machine) a, .val (tU (tU tI)) z_2, .val (tL tI) z_4, .un, .un, .un]) (cs2 := []) rfl rfl ?k864
         case k864 =>
          refine' sk_retFE (ek_chainE op_eq r2_eqI op_eq r2_eqI (PV.k (pv_cb cr_lenQ bs.m_len bs.b_len u_len (PV.q (PK.l (pk_var (i := 2) rfl))))) (PV.k (pv_cb cr_lenQ bs.m_len bs.b_len u_len (PV.uq (PK.u (pk_var (i := 1) rfl))))) ?lc140) ?lc141
          case lc140 =>
           exact EV.k (ev_cb cr_lenSetI bs.m_len bs.b_len (fun _ => u_lenSetI) (ev_ct (cr_setI rfl) bs.m_set bs.b_set (fun _ => u_setI) (EV.lk (EK.l (ek_fp g_lclasses.F (slC sl1) hr g_lclasses.m g_lclasses.k g_lclasses.b (PAK.ak (pa_C (pk_var (i := 1) rfl) (pa_1 (pk_fld cl_Machine.c cl_Machine.n_good (PK.ins (pk_var (i := 0) rfl)))))))))))
          case lc141 =>
           exact fun _ => rfl
  case vc =>
   intro h
   simp only [true_and, and_true, yes1, yes2]
   obtain ⟨ls, tab, good⟩ := a
   obtain ⟨⟨⟨hM, hG⟩, hL⟩, hφ⟩ := h
   have hM : TabOk ls tab := hM
   have hL : IsM ls.length tab good := hL
   have few : tab.length ≤ 64 := hM.few
   have l6 := hM.l6
   have hφ : φ true := hφ _ rfl
   try dsimp only
   intro _ z ez z1 ez1 w ew
   have ez1 : z1 = tab := ez1
   rw [ez1]
   have wl : w.length = 1 := by rw [ew, ez]; rfl
   refine ⟨fun i v => ∃ c : Int, CanAt tab i c ∧ (v.length : Int) = c ∧ v.length ≤ i * 7 + 1, ⟨1, CanAt.start hL, by rw [wl]; rfl, by rw [wl]; omega⟩, fun i v x hx ⟨c, c1, c2, c3⟩ => ?_, fun v ⟨c, c1, c2, c3⟩ => ?_⟩
   · obtain ⟨e1, e2⟩ := enumF_get hx
     obtain ⟨r1, r2, r3⟩ := c1.row e2
     have hi := (List.getElem?_eq_some_iff.mp e2).1
     have rl : x.2.length = ls.length := hL.ok.len _ (get_mem e2)
     refine ⟨fun j v2 => (v2.length : Int) = rowC c (x.2.take j) ∧ v2.length ≤ i * 7 + 1 + j, ⟨c2, c3⟩, fun j v2 g hg ⟨d1, d2⟩ => ?_, fun v2 ⟨d1, d2⟩ => ⟨_, r3, ?_, ?_⟩⟩
     · obtain ⟨g0, g1⟩ := rowOk_at r2 hg
       have le := rowC_le c (x.2.take j)
       have hj := (List.getElem?_eq_some_iff.mp hg).1
       have t1 : decide ((v2.length : Int) ≤ x.1) = false := decide_eq_false (by omega)
       have t2 : (decide (0 ≤ g) && decide (g ≤ (v2.length : Int))) = true := by rw [decide_eq_true g0, decide_eq_true (by omega)]; rfl
       rw [t1, t2]
       refine ⟨fun _ _ => trivial, fun e => (by cases e), fun _ => ⟨fun e => ⟨by rw [sizeLine_eq]; omega, fun z2 ez2 w2 ew2 => ⟨?_, ?_⟩⟩, fun e => ⟨?_, by omega⟩⟩⟩
       · show (w2.length : Int) = rowC c (x.2.take (j + 1))
         rw [take_step hg, rowC_snoc, if_pos (by have := of_decide_eq_true e; omega), ew2, ez2, List.length_append]
         show ((v2.length + 1 : Nat) : Int) = _
         omega
       · show w2.length ≤ _
         rw [ew2, ez2, List.length_append]
         show v2.length + 1 ≤ _
         omega
       · show (v2.length : Int) = rowC c (x.2.take (j + 1))
         rw [take_step hg, rowC_snoc, if_neg (by have := of_decide_eq_false e; omega), d1]
     · rw [List.take_length] at d1
       exact d1
     · rw [rl] at d2
       omega
   · rw [enumF_length] at c1
     have := c1.done
     refine ⟨fun e => absurd (of_decide_eq_false e) (by omega), fun _ => ⟨⟨_, hL.ok, l6, few⟩, fun r hr => ?_⟩⟩
     have hC : ColA ls.length tab good r := hr _ hL.ok
     have rl := hC.len
     refine ⟨by omega, by omega, ?_⟩
     show φ (decide ((tab.length : Int) = ((sortI1 r).length : Int)))
     rw [hL.colours hC, decide_eq_true rfl]
     exact hφ
abbrev s_formed : Stmt := topS 26
theorem sc_formed : FnScope ["_law_machine_here", "_law_letters", "_law_steps", "_law_plain", "_law_state", "_law_goal"] ["_law_machine_here", "_law_letters"] (defScope s_formed) := ⟨rfl, rfl, rfl, by decide +kernel, rfl, by decide +kernel, by decide +kernel⟩
def c_formed (K : PySem.W.Frag) (C_Machine : Addr) := Con.fn (K := K) (fun x : ((List Str × List (List Int) × List Int) × (List Str)) => [.val (ty_Machine C_Machine) x.1, .val (tL tS) x.2]) tB pre_formed f_formed
theorem ok_formed (bs : Bs mg) {C_Machine : Addr} (cl_Machine : Cl_Machine K C_Machine) {f : Addr} {fd : FuncData} (F : Fun K "_law_formed" "_law_formed" s_formed f fd) : FnG P w K mg base 1 f fd ["_law_machine_here", "_law_letters"] (c_formed K C_Machine).sp := by
  refine fn_conG (c_formed K C_Machine) F sc_formed (fun _ => rfl) ?_
  intro cdv Ar outer s H E F0 a φ ε hgd hr hp
  have hu := hu_of hr
  have sc := sc_formed
  refine' SK.vc ?hh ?vc
  case hh =>
   refine' sk_seq (sk_if1 (PWK.pt (pw_or' (pt_cmp' op_ne r2_neR (PV.k (pv_cb (cr_repr hgd hr) bs.m_repr bs.b_repr (u_repr (dU (@dS K)) tU_ref (Nat.le_of_ble_eq_true rfl)) (PK.v (PK.uf (pk_fld cl_Machine.c cl_Machine.n_letters (PK.ins (pk_var (i := 0) rfl))))))) (PV.k (pv_cb (cr_repr hgd hr) bs.m_repr bs.b_repr (u_repr (dU (@dS K)) tU_ref (Nat.le_of_ble_eq_true rfl)) (PK.v (PV.k (pv_ct call_tuple_of bs.m_tuple bs.b_tuple u_tupL (PV.lk (PK.l (pk_var (i := 1) rfl))))))))) (pw_or1' (pt_not' (pt_val' (pk_isi (r := true) ty_U (PK.v (pk_fld cl_Machine.c cl_Machine.n_table (PK.ins (pk_var (i := 0) rfl)))) bs.m_isinstance bs.b_isinstance bs.m_tuple bs.b_tuple (by decide +kernel))))))) ?a885 ?b886)
   case a885 =>
    exact sk_retF pk_bl
   case b886 =>
    refine' sk_nilX rfl ?k887
    case k887 =>
     refine' sk_for (fun _ : Unit => [.val (ty_Machine C_Machine) a.1, .val (tL tS) a.2, .un, .un, .un, .un]) (fun _ : Unit => []) () hp rfl (ik_tup (pk_fld cl_Machine.c cl_Machine.n_table (PK.ins (pk_var (i := 0) rfl)))) (gk_name (i := 2) (by exact sc.nd)) (.same (.same (.same (.same (.same (.same .nil)))))) rfl ?b888 ?k889
     case b888 =>
      intro fl_5 hs_4 N_3 z_1 x_2
      refine' sk_st (ρ2 := [.val (ty_Machine C_Machine) a.1, .val (tL tS) a.2, .val (tU tI) x_2, .un, .un, .un]) (cs2 := []) rfl rfl ?k890
      case k890 =>
       refine' sk_seq (sk_if1 (PWK.pt (pw_or' (pt_not' (pt_val' (pk_isi (r := true) ty_U (PK.v (pk_var (i := 2) rfl)) bs.m_isinstance bs.b_isinstance bs.m_tuple bs.b_tuple (by decide +kernel)))) (pw_or1' (pt_cmp' op_ne r2_neI (PV.k (pv_cb cr_lenQ bs.m_len bs.b_len u_len (PV.uq (PK.u (pk_var (i := 2) rfl))))) (PV.k (pv_cb cr_lenQ bs.m_len bs.b_len u_len (PV.q (PK.l (pk_var (i := 1) rfl))))))))) ?a891 ?b892)
       case a891 =>
        exact sk_retF pk_bl
       case b892 =>
        refine' sk_nilX rfl ?k893
        case k893 =>
         refine' sk_seq (sk_if1E (tk_neE hr.units (dL (@dI K)) (NE.ek (ne_lc rfl (by exact sc.nd) ?lc143 ?lc142 ?lc144)) (fun _ => (PK.ek (NK.pk (nk_lst pl_0 (Nat.zero_le _)))))) ?a897 ?b898)
         case lc143 =>
          exact blkOk_by (own := [("_law_goal", 5)]) (N := ["_law_machine_here", "_law_letters", "_law_steps", "_law_plain", "_law_state", "_law_goal"]) (sc := defScope s_formed) (by decide +kernel)
         case lc142 =>
          exact lc_k (own := [("_law_goal", 5)]) (T := tI) (U := tI) (G := fun ρ x => (List.set ρ 5 (.val tI x))) (vs := [5]) (cs' := (fun _ : Unit => [])) (z0 := fun y => ()) (s1 := fun _ _ _ => ()) (s2 := fun _ _ _ _ => ()) (IK.ie (ik_tup (pk_var (i := 2) rfl))) (fun _ => rfl) (by decide) (fun _ _ _ _ _ => (gk_name (i := 5) (by exact sc.nd))) (fun _ _ _ _ _ _ _ => (ts_1 (PTK.tk (PWK.pt (pw_or' (pt_not' (pt_val' (pk_isi (r := true) ty_I (PK.v (pk_var (i := 5) rfl)) bs.m_isinstance bs.b_isinstance bs.m_int bs.b_int (by decide +kernel)))) (pw_or1' (pt_val' (pk_isi (r := false) ty_I (PK.v (pk_var (i := 5) rfl)) bs.m_isinstance bs.b_isinstance bs.m_bool bs.b_bool (by decide +kernel))))))))) (fun _ _ _ _ _ _ _ _ => (PK.ek (pk_var (i := 5) rfl)))
         case lc144 =>
          exact fun _ => rfl
         case a897 =>
          intro y_8
          exact sk_retF pk_bl
         case b898 =>
          intro y_9
          refine' sk_nilX rfl ?k899
          case k899 =>
           exact sk_midX (z := ()) rfl (.same (.same (.un (.same (.same (.same .nil)))))) rfl
     case k889 =>
      intro z_1
      refine' sk_setLc (i := 3) rfl (by exact sc.nd) (blkOk_by (own := [("_law_state", 4)]) (N := ["_law_machine_here", "_law_letters", "_law_steps", "_law_plain", "_law_state", "_law_goal"]) (sc := defScope s_formed) (by decide +kernel)) ?lc145 ?k901
      case lc145 =>
       exact lc_k (own := [("_law_state", 4)]) (T := tI) (U := tI) (G := fun ρ x => (List.set ρ 4 (.val tI x))) (vs := [4]) (cs' := (fun _ : Unit => [])) (z0 := fun y => ()) (s1 := fun _ _ _ => ()) (s2 := fun _ _ _ _ => ()) (IK.ie (ik_range1 bs.m_range (PV.k (pv_cb cr_lenQ bs.m_len bs.b_len u_len (PV.uq (PK.u (pk_fld cl_Machine.c cl_Machine.n_table (PK.ins (pk_var (i := 0) rfl))))))))) (fun _ => rfl) (by decide) (fun _ _ _ _ _ => (gk_name (i := 4) (by exact sc.nd))) (fun _ _ _ _ _ _ _ => (ts_1 (PTK.tk (pt_in fI (pk_var (i := 4) rfl) (PV.uq (PK.u (pk_fld cl_Machine.c cl_Machine.n_good (PK.ins (pk_var (i := 0) rfl))))))))) (fun _ _ _ _ _ _ _ _ => (PK.ek (pk_var (i := 4) rfl)))
      case k901 =>
       intro y_12 plain_13
       refine' sk_st (ρ2 := [.val (ty_Machine C_Machine) a.1, .val (tL tS) a.2, .un, .val (tL tI) plain_13, .un, .un]) (cs2 := []) rfl rfl ?k902
       case k902 =>
        exact sk_retF (pk_cmp op_eq r2_eqR (PV.k (pv_cb (cr_repr hgd hr) bs.m_repr bs.b_repr (u_repr (dU (@dI K)) tU_ref (Nat.le_of_ble_eq_true rfl)) (PK.v (pk_fld cl_Machine.c cl_Machine.n_good (PK.ins (pk_var (i := 0) rfl)))))) (PV.k (pv_cb (cr_repr hgd hr) bs.m_repr bs.b_repr (u_repr (dU (@dI K)) tU_ref (Nat.le_of_ble_eq_true rfl)) (PK.v (PV.k (pv_ct call_tuple_of bs.m_tuple bs.b_tuple u_tupL (PV.lk (PK.l (pk_var (i := 3) rfl)))))))))
  case vc =>
   intro h
   simp only [true_and, and_true, yes1, yes2]
   obtain ⟨⟨ls, tab, good⟩, l2⟩ := a
   obtain ⟨⟨hM, he⟩, hφ⟩ := h
   have hM : MaOk (ls, tab, good) := hM
   have he : ls = l2 := he
   subst he
   have hφt : φ true := hφ _ rfl
   have hT : TabOk ls tab := hM.1
   have hg : GoodOk tab good := hM.2
   try dsimp only
   have h24 : tab.length ≤ 64 := hT.few
   have k1 := (sml_words hT.w hT.l6).1.fits (by decide)
   have k1 : ((dU (dS (K := K))).d ls).showable = true ∧ ((dU (dS (K := K))).d ls).hasDict = false ∧ ((dU (dS (K := K))).d ls).shown.length ≤ sizeLine := k1
   have k2 : ((dU (dI (K := K))).d good).showable = true ∧ ((dU (dI (K := K))).d good).hasDict = false ∧ ((dU (dI (K := K))).d good).shown.length ≤ sizeLine := by
     have h2 : ∀ y ∈ good.map PyData.int, Sml 1001 y := fun y hy => by
       obtain ⟨g, hgm, rfl⟩ := List.mem_map.mp hy
       have := good_in hg hgm
       exact sml_int this.1 (by omega)
     have hgl : good.length ≤ 64 := by
       have h1 : good.length ≤ (rng 0 (tab.length : Int)).length := by
         have e : good = (rng 0 (tab.length : Int)).filter fun k => decide (k ∈ good) := hg
         rw [e]
         exact List.length_filter_le _ _
       rw [rng_len] at h1
       omega
     exact (sml_tup h2).fits (by rw [List.length_map]; omega)
   have d1 : ∀ x : Str, decide (x = x) = true := fun x => decide_eq_true rfl
   rw [d1]
   refine ⟨⟨⟨k1, k1⟩, fun _ => trivial⟩, fun e => (by cases e), fun _ => ⟨fun _ _ => True, trivial, fun i _ r hr _ => ?_, fun _ _ => ⟨⟨by omega, by omega⟩, fun i acc _ => acc = ((rng 0 (tab.length : Int)).take i).filter (fun k => decide (k ∈ good)), rfl, fun i acc _ x hx hI => ⟨fun e => ?_, fun e => ?_⟩, fun acc _ hI z ez => ?_⟩⟩⟩
   · have hrl := hT.len r (get_mem hr)
     have d2 : decide ((r.length : Int) = (ls.length : Int)) = true := decide_eq_true (by omega)
     rw [d2]
     refine ⟨fun _ => trivial, fun e => (by cases e), fun _ => ⟨fun _ acc _ => acc = [], rfl, fun j acc _ g hg hJ => ⟨fun _ => trivial, fun e => (by cases e), fun _ => hJ⟩, fun acc _ hJ => ⟨fun e => ?_, fun _ => trivial⟩⟩⟩
     have hJ : acc = [] := hJ
     subst hJ
     rw [decide_eq_true rfl] at e
     cases e
   · dsimp only at hI ⊢
     rw [filt_yes hx e, hI]
   · dsimp only at hI ⊢
     rw [filt_no hx e, hI]
   · dsimp only at hI
     rw [List.take_length] at hI
     have ez : z = good := ez.trans (hI.trans hg.symm)
     subst ez
     rw [d1]
     exact ⟨⟨k2, k2⟩, hφt⟩
abbrev s_three : Stmt := topS 27
theorem sc_three : FnScope ["_law_one", "_law_other", "_law_low", "_law_left", "_law_come", "_law_found", "_law_first", "_law_second", "_law_third", "_law_spot"] ["_law_one", "_law_other", "_law_low"] (defScope s_three) := ⟨rfl, rfl, rfl, by decide +kernel, rfl, by decide +kernel, by decide +kernel⟩
def c_three (K : PySem.W.Frag) (C_Machine : Addr) := Con.fp (K := K) (fun x : (((List (List Int)) × (List Int)) × ((List (List Int)) × (List Int)) × (List Str × List (List Int) × List Int)) => [.val (tT (tsC (tL (tL tI)) (ts1 (tL tI)))) x.1, .val (tT (tsC (tL (tL tI)) (ts1 (tL tI)))) x.2.1, .val (ty_Machine C_Machine) x.2.2]) (tL (tT (tsC tB (tsC tB (ts1 tB))))) pre_three post_three
theorem ok_three (bs : Bs mg) {C_Machine : Addr} (cl_Machine : Cl_Machine K C_Machine) {f : Addr} {fd : FuncData} (F : Fun K "_law_three" "_law_three" s_three f fd) : FnOk P w K mg base (L2.CX P w) 1 f fd ["_law_one", "_law_other", "_law_low"] (c_three K C_Machine).sp := by
  refine fn_con (c_three K C_Machine) F sc_three (fun _ => rfl) ?_
  intro cdv Ar outer s H E F0 a φ ε hr hp
  have hu := hu_of hr
  have sc := sc_three
  refine' SK.vc ?hh ?vc
  case hh =>
   refine' sk_setN (i := 3) (T := (tT (tsC tI (tsC tI (ts1 tI))))) (by exact sc.nd) (NK.ne (nk_lst (pl_C (pk_tup (pa_C pk_int (pa_C pk_int (pa_1 pk_int))) (fun F vs => (lenC (lenC len1)) F vs _)) pl_0) (Nat.le_of_ble_eq_true rfl))) ?k936
   case k936 =>
    intro y_1 a_2 left_3
    refine' sk_st (ρ2 := [.val (tT (tsC (tL (tL tI)) (ts1 (tL tI)))) a.1, .val (tT (tsC (tL (tL tI)) (ts1 (tL tI)))) a.2.1, .val (ty_Machine C_Machine) a.2.2, .val tR a_2, .un, .un, .un, .un, .un, .un]) (cs2 := [⟨a_2, cL (tT (tsC tI (tsC tI (ts1 tI)))) left_3⟩]) rfl rfl ?k937
    case k937 =>
     refine' sk_setDispT kIII (i := 4) (by exact sc.nd) hr (pk_tup (pa_C pk_int (pa_C pk_int (pa_1 pk_int))) (fun F vs => (lenC (lenC len1)) F vs _)) pk_bl ?k938
     case k938 =>
      intro a_4 come_5
      refine' sk_st (ρ2 := [.val (tT (tsC (tL (tL tI)) (ts1 (tL tI)))) a.1, .val (tT (tsC (tL (tL tI)) (ts1 (tL tI)))) a.2.1, .val (ty_Machine C_Machine) a.2.2, .val tR a_2, .val tR a_4, .un, .un, .un, .un, .un]) (cs2 := [⟨a_2, cL (tT (tsC tI (tsC tI (ts1 tI)))) left_3⟩, ⟨a_4, cDt kIII tB come_5⟩]) rfl rfl ?k939
      case k939 =>
       refine' sk_setN (i := 5) (T := (tT (tsC tB (tsC tB (ts1 tB))))) (by exact sc.nd) (NK.ne (nk_lst (T := (tT (tsC tB (tsC tB (ts1 tB))))) (pl_0 (T := (tT (tsC tB (tsC tB (ts1 tB)))))) (Nat.zero_le _))) ?k940
       case k940 =>
        intro y_6 a_7 found_8
        refine' sk_st (ρ2 := [.val (tT (tsC (tL (tL tI)) (ts1 (tL tI)))) a.1, .val (tT (tsC (tL (tL tI)) (ts1 (tL tI)))) a.2.1, .val (ty_Machine C_Machine) a.2.2, .val tR a_2, .val tR a_4, .val tR a_7, .un, .un, .un, .un]) (cs2 := [⟨a_2, cL (tT (tsC tI (tsC tI (ts1 tI)))) left_3⟩, ⟨a_4, cDt kIII tB come_5⟩, ⟨a_7, cL (tT (tsC tB (tsC tB (ts1 tB)))) found_8⟩]) rfl rfl ?k941
        case k941 =>
         refine' sk_while (fun z_9 : (List (Int × Int × Int) × List ((Int × Int × Int) × Bool) × List (Bool × Bool × Bool)) => [.val (tT (tsC (tL (tL tI)) (ts1 (tL tI)))) a.1, .val (tT (tsC (tL (tL tI)) (ts1 (tL tI)))) a.2.1, .val (ty_Machine C_Machine) a.2.2, .val tR a_2, .val tR a_4, .val tR a_7, .un, .un, .un, .un]) (fun z_9 : (List (Int × Int × Int) × List ((Int × Int × Int) × Bool) × List (Bool × Bool × Bool)) => [⟨a_2, cL (tT (tsC tI (tsC tI (ts1 tI)))) z_9.1⟩, ⟨a_4, cDt kIII tB z_9.2.1⟩, ⟨a_7, cL (tT (tsC tB (tsC tB (ts1 tB)))) z_9.2.2⟩]) (_, _, _) hp (.same (.same (.same (.same (.same (.same (.same (.same (.same (.same .nil)))))))))) rfl (fun z_9 => (pt_neV hr.units (dv_rL (dT (dsC (@dI K) (dsC (@dI K) (ds1 (@dI K)))))) (dv_sv (dL (dT (dsC (@dI K) (dsC (@dI K) (ds1 (@dI K))))))) rL_stays (eqv_dec (dL (dT (dsC (@dI K) (dsC (@dI K) (ds1 (@dI K)))))) _ _) (PK.own 0 (pk_var (i := 3) rfl) rfl) (PK.v (NK.pk (nk_lst pl_0 (Nat.zero_le _)))))) ?b942 ?k943
         case b942 =>
          intro fl_12 hs_11 N_10 z_9
          refine' sk_setG (gk_tup rfl (gs_C (gk_name (i := 6) (by exact sc.nd)) (gs_C (gk_name (i := 7) (by exact sc.nd)) (gs_1 (gk_name (i := 8) (by exact sc.nd))))) (tlC (tlC tl1))) (ek_mL0 PySem.F.slot_list_pop PySem.F.type_list_pop mt_pop ml_pop 0 (pk_var (i := 3) rfl) rfl) ?k944
          case k944 =>
           intro y_13 z_14
           refine' sk_name 0 rfl ?k945
           case k945 =>
            intro w_15
            refine' sk_st (ρ2 := [.val (tT (tsC (tL (tL tI)) (ts1 (tL tI)))) a.1, .val (tT (tsC (tL (tL tI)) (ts1 (tL tI)))) a.2.1, .val (ty_Machine C_Machine) a.2.2, .val tR a_2, .val tR a_4, .val tR a_7, .val tI z_14.1, .val tI z_14.2.1, .val tI z_14.2.2, .un]) (cs2 := [⟨a_2, cL (tT (tsC tI (tsC tI (ts1 tI)))) w_15⟩, ⟨a_4, cDt kIII tB z_9.2.1⟩, ⟨a_7, cL (tT (tsC tB (tsC tB (ts1 tB)))) z_9.2.2⟩]) rfl rfl ?k946
            case k946 =>
             refine' sk_st (ρ2 := [.val (tT (tsC (tL (tL tI)) (ts1 (tL tI)))) a.1, .val (tT (tsC (tL (tL tI)) (ts1 (tL tI)))) a.2.1, .val (ty_Machine C_Machine) a.2.2, .val tR a_2, .val tR a_4, .val tR a_7, .val tI z_14.1, .val tI z_14.2.1, .val tI z_14.2.2, .un]) (cs2 := [⟨a_2, cL (tT (tsC tI (tsC tI (ts1 tI)))) w_15⟩, ⟨a_4, cDt kIII tB z_9.2.1⟩, ⟨a_7, cL (tT (tsC tB (tsC tB (ts1 tB)))) z_9.2.2⟩]) rfl rfl ?k947
             case k947 =>
              refine' sk_expr (ek_mL PySem.F.slot_list_append PySem.F.type_list_append mt_append ml_append 2 (pk_var (i := 5) rfl) (ak_1 (PK.ek (pk_tup (pa_C (pk_in fI (pk_var (i := 6) rfl) (PV.q (PK.l (pk_ixT (Nth.next Nth.one) (pk_var (i := 0) rfl))))) (pa_C (pk_in fI (pk_var (i := 7) rfl) (PV.q (PK.l (pk_ixT (Nth.next Nth.one) (pk_var (i := 1) rfl))))) (pa_1 (pk_in fI (pk_var (i := 8) rfl) (PV.uq (PK.u (pk_fld cl_Machine.c cl_Machine.n_good (PK.ins (pk_var (i := 2) rfl))))))))) (fun F vs => (lenC (lenC len1)) F vs _)))) (fun _ => rfl) ⟨_, rfl⟩) ?k948
              case k948 =>
               intro y_16
               refine' sk_name 2 rfl ?k949
               case k949 =>
                intro w_17
                refine' sk_st (ρ2 := [.val (tT (tsC (tL (tL tI)) (ts1 (tL tI)))) a.1, .val (tT (tsC (tL (tL tI)) (ts1 (tL tI)))) a.2.1, .val (ty_Machine C_Machine) a.2.2, .val tR a_2, .val tR a_4, .val tR a_7, .val tI z_14.1, .val tI z_14.2.1, .val tI z_14.2.2, .un]) (cs2 := [⟨a_2, cL (tT (tsC tI (tsC tI (ts1 tI)))) w_15⟩, ⟨a_4, cDt kIII tB z_9.2.1⟩, ⟨a_7, cL (tT (tsC tB (tsC tB (ts1 tB)))) w_17⟩]) rfl rfl ?k950
                case k950 =>
                 refine' sk_for (fun z_18 : (List (Int × Int × Int) × List ((Int × Int × Int) × Bool)) => [.val (tT (tsC (tL (tL tI)) (ts1 (tL tI)))) a.1, .val (tT (tsC (tL (tL tI)) (ts1 (tL tI)))) a.2.1, .val (ty_Machine C_Machine) a.2.2, .val tR a_2, .val tR a_4, .val tR a_7, .val tI z_14.1, .val tI z_14.2.1, .val tI z_14.2.2, .un]) (fun z_18 : (List (Int × Int × Int) × List ((Int × Int × Int) × Bool)) => [⟨a_2, cL (tT (tsC tI (tsC tI (ts1 tI)))) z_18.1⟩, ⟨a_4, cDt kIII tB z_18.2⟩, ⟨a_7, cL (tT (tsC tB (tsC tB (ts1 tB)))) w_17⟩]) (_, _) hp rfl (ik_zipM true true false bs.m_zip sq_L sq_L sq_U (pk_ixR (T := (tL tI)) (PV.lk (PK.l (pk_ixT Nth.here (pk_var (i := 0) rfl)))) (pk_var (i := 6) rfl)) (pk_ixR (T := (tL tI)) (PV.lk (PK.l (pk_ixT Nth.here (pk_var (i := 1) rfl)))) (pk_var (i := 7) rfl)) (pk_ixU (pk_fld cl_Machine.c cl_Machine.n_table (PK.ins (pk_var (i := 2) rfl))) (pk_var (i := 8) rfl))) (gk_name (i := 9) (by exact sc.nd)) (.same (.same (.same (.same (.same (.same (.same (.same (.same (.same .nil)))))))))) rfl ?b951 ?k952
                 case b951 =>
                  intro fl_22 hs_21 N_20 z_18 x_19
                  refine' sk_st (ρ2 := [.val (tT (tsC (tL (tL tI)) (ts1 (tL tI)))) a.1, .val (tT (tsC (tL (tL tI)) (ts1 (tL tI)))) a.2.1, .val (ty_Machine C_Machine) a.2.2, .val tR a_2, .val tR a_4, .val tR a_7, .val tI z_14.1, .val tI z_14.2.1, .val tI z_14.2.2, .val (tT (tsC tI (tsC tI (ts1 tI)))) x_19]) (cs2 := [⟨a_2, cL (tT (tsC tI (tsC tI (ts1 tI)))) z_18.1⟩, ⟨a_4, cDt kIII tB z_18.2⟩, ⟨a_7, cL (tT (tsC tB (tsC tB (ts1 tB)))) w_17⟩]) rfl rfl ?k953
                  case k953 =>
                   refine' sk_seq (sk_if1 (pt_dninT hu (pk_var (i := 9) rfl) (PK.ownDt 1 (pk_var (i := 4) rfl) rfl)) ?a954 ?b955)
                   case a954 =>
                    refine' sk_dputT 1 hu (PK.ek pk_bl) (fun _ => (pk_var (i := 4) rfl)) (fun _ => (pk_var (i := 9) rfl)) (fun _ => rfl) ?k956
                    case k956 =>
                     intro y_23 w_24
                     refine' sk_st (ρ2 := [.val (tT (tsC (tL (tL tI)) (ts1 (tL tI)))) a.1, .val (tT (tsC (tL (tL tI)) (ts1 (tL tI)))) a.2.1, .val (ty_Machine C_Machine) a.2.2, .val tR a_2, .val tR a_4, .val tR a_7, .val tI z_14.1, .val tI z_14.2.1, .val tI z_14.2.2, .val (tT (tsC tI (tsC tI (ts1 tI)))) x_19]) (cs2 := [⟨a_2, cL (tT (tsC tI (tsC tI (ts1 tI)))) z_18.1⟩, ⟨a_4, cDt kIII tB w_24⟩, ⟨a_7, cL (tT (tsC tB (tsC tB (ts1 tB)))) w_17⟩]) rfl rfl ?k957
                     case k957 =>
                      refine' sk_expr (ek_mL PySem.F.slot_list_append PySem.F.type_list_append mt_append ml_append 0 (pk_var (i := 3) rfl) (ak_1 (PK.ek (pk_var (i := 9) rfl))) (fun _ => rfl) ⟨_, rfl⟩) ?k958
                      case k958 =>
                       intro y_25
                       refine' sk_name 0 rfl ?k959
                       case k959 =>
                        intro w_26
                        refine' sk_st (ρ2 := [.val (tT (tsC (tL (tL tI)) (ts1 (tL tI)))) a.1, .val (tT (tsC (tL (tL tI)) (ts1 (tL tI)))) a.2.1, .val (ty_Machine C_Machine) a.2.2, .val tR a_2, .val tR a_4, .val tR a_7, .val tI z_14.1, .val tI z_14.2.1, .val tI z_14.2.2, .val (tT (tsC tI (tsC tI (ts1 tI)))) x_19]) (cs2 := [⟨a_2, cL (tT (tsC tI (tsC tI (ts1 tI)))) w_26⟩, ⟨a_4, cDt kIII tB w_24⟩, ⟨a_7, cL (tT (tsC tB (tsC tB (ts1 tB)))) w_17⟩]) rfl rfl ?k960
                        case k960 =>
                         refine' sk_nilX rfl ?k961
                         case k961 =>
                          exact sk_midX (z := (_, _)) rfl (.same (.same (.same (.same (.same (.same (.same (.same (.same (.un .nil)))))))))) rfl
                   case b955 =>
                    refine' sk_nilX rfl ?k962
                    case k962 =>
                     exact sk_midX (z := (_, _)) rfl (.same (.same (.same (.same (.same (.same (.same (.same (.same (.un .nil)))))))))) rfl
                 case k952 =>
                  intro z_18
                  exact sk_midX (z := (_, _, _)) rfl (.same (.same (.same (.same (.same (.same (.un (.un (.un (.same .nil)))))))))) rfl
         case k943 =>
          intro z_9
          refine' sk_freeze 2 5 rfl rfl rfl (Nat.le_of_ble_eq_true rfl) ?k963
          case k963 =>
           refine' sk_st (ρ2 := [.val (tT (tsC (tL (tL tI)) (ts1 (tL tI)))) a.1, .val (tT (tsC (tL (tL tI)) (ts1 (tL tI)))) a.2.1, .val (ty_Machine C_Machine) a.2.2, .val tR a_2, .val tR a_4, .val (tL (tT (tsC tB (tsC tB (ts1 tB))))) z_9.2.2, .un, .un, .un, .un]) (cs2 := [⟨a_2, cL (tT (tsC tI (tsC tI (ts1 tI)))) z_9.1⟩, ⟨a_4, cDt kIII tB z_9.2.1⟩]) rfl rfl ?k964
           case k964 =>
            refine' sk_drop 1 ?k965
            case k965 =>
             refine' sk_st (ρ2 := [.val (tT (tsC (tL (tL tI)) (ts1 (tL tI)))) a.1, .val (tT (tsC (tL (tL tI)) (ts1 (tL tI)))) a.2.1, .val (ty_Machine C_Machine) a.2.2, .val tR a_2, .val tR a_4, .val (tL (tT (tsC tB (tsC tB (ts1 tB))))) z_9.2.2, .un, .un, .un, .un]) (cs2 := [⟨a_2, cL (tT (tsC tI (tsC tI (ts1 tI)))) z_9.1⟩]) rfl rfl ?k966
             case k966 =>
              refine' sk_drop 0 ?k967
              case k967 =>
               refine' sk_st (ρ2 := [.val (tT (tsC (tL (tL tI)) (ts1 (tL tI)))) a.1, .val (tT (tsC (tL (tL tI)) (ts1 (tL tI)))) a.2.1, .val (ty_Machine C_Machine) a.2.2, .val tR a_2, .val tR a_4, .val (tL (tT (tsC tB (tsC tB (ts1 tB))))) z_9.2.2, .un, .un, .un, .un]) (cs2 := []) rfl rfl ?k968
               case k968 =>
                exact sk_retP (pk_var (i := 5) rfl)
  case vc =>
   intro h
   simp only [true_and, and_true, yes1, yes2]
   obtain ⟨⟨t1, g1⟩, ⟨t2, g2⟩, ls, t3, g3⟩ := a
   obtain ⟨⟨⟨m, H1, H2, T3⟩, l3, f3⟩, hφ⟩ := h
   have T1 : TOk m t1 := H1.1
   have T2 : TOk m t2 := H2.1
   have T3 : TOk m t3 := T3
   have f1 : t1.length ≤ 24 := H1.2.2.2
   have f2 : t2.length ≤ 24 := H2.2.2.2
   have f3 : t3.length ≤ 64 := f3
   have p1 : 1 ≤ t1.length := H1.2.2.1
   have p2 : 1 ≤ t2.length := H2.2.2.1
   have p3 : 0 < t3.length := l3
   have n1 : InR t1 0 := ⟨Int.le_refl 0, by omega⟩
   have n2 : InR t2 0 := ⟨Int.le_refl 0, by omega⟩
   have n3 : InR t3 0 := ⟨Int.le_refl 0, by omega⟩
   have hφ : ∀ r, (∀ t ∈ r, ∃ w, Wd m w ∧ t = (decide (runT t1 0 w ∈ g1), decide (runT t2 0 w ∈ g2), decide (runT t3 0 w ∈ g3))) → φ r := fun r hr => hφ r fun m' k1 _ _ => by
     have em : m' = m := by
       have a1 := k1.1.len _ (pyIx_mem (i := 0) n1.1 n1.2)
       have a2 := T1.len _ (pyIx_mem (i := 0) n1.1 n1.2)
       exact a1.symm.trans a2
     rw [em]
     exact hr
   try dsimp only
   intro _ z ez _ z1 ez1 _ z2 ez2
   refine ⟨fun n y => Gone3 m t1 t2 t3 y.1 y.2.1 ∧ n + 2 * y.2.1.length = 73728 + y.1.length ∧ y.2.2.length + y.1.length = y.2.1.length ∧ ∀ t ∈ y.2.2, ∃ w, Wd m w ∧ t = (decide (runT t1 0 w ∈ g1), decide (runT t2 0 w ∈ g2), decide (runT t3 0 w ∈ g3)), ⟨73727, by rw [ez, ez1]; exact Gone3.start n1 n2 n3, by rw [ez, ez1]; rfl, by rw [ez, ez1, ez2]; rfl, by rw [ez2]; exact fun t ht => by cases ht⟩, fun n y ⟨i1, i2, i3, i4⟩ => ⟨fun e => ?_, fun _ => hφ _ i4⟩⟩
   have few := i1.few f1 f2 f3
   have ne : y.1 ≠ [] := fun c => by rw [decide_eq_true c] at e; cases e
   have yl : 0 < y.1.length := List.length_pos_iff.mpr ne
   refine ⟨ne, fun z3 ez3 z4 ez4 w ew => ⟨by rw [sizeLine_eq]; omega, fun z5 ez5 w1 ew1 => ?_⟩⟩
   have hp : Led3 m t1 t2 t3 z4 := i1.left z4 (by rw [ez4]; exact KM.pyIx_last ne)
   obtain ⟨r1, r2, r3⟩ := hp.inr T1 T2 T3 n1 n2 n3
   have r1a := r1.1
   have r2a := r2.1
   have r3a := r3.1
   have gw : Gone3 m t1 t2 t3 w y.2.1 := by rw [ew, ez3]; exact i1.pop
   have wl : w.length + 1 = y.1.length := by rw [ew, ez3, List.length_dropLast]; omega
   have fl : w1.length = y.2.2.length + 1 := by rw [ew1, ez5, List.length_append]; rfl
   have fm : ∀ t ∈ w1, ∃ w, Wd m w ∧ t = (decide (runT t1 0 w ∈ g1), decide (runT t2 0 w ∈ g2), decide (runT t3 0 w ∈ g3)) := fun t ht => by
     rw [ew1, ez5] at ht
     rcases List.mem_append.mp ht with c | c
     · exact i4 t c
     · obtain ⟨v, hv, ev⟩ := hp
       refine ⟨v, hv, ?_⟩
       rw [List.mem_singleton.mp c, ev]
   refine ⟨⟨⟨by omega, r1.2⟩, ⟨by omega, r2.2⟩, ⟨by omega, r3.2⟩⟩, fun j u => Gone3 m t1 t2 t3 u.1 u.2 ∧ u.1.length + y.2.1.length = w.length + u.2.length ∧ y.2.1.length ≤ u.2.length, ⟨gw, rfl, Nat.le_refl _⟩, fun j u x hx ⟨j1, j2, j3⟩ => ?_, fun u ⟨j1, j2, j3⟩ => ?_⟩
   · have few3 := j1.few f1 f2 f3
     have hl := hp.step T1 T2 T3 n1 n2 n3 hx
     refine ⟨fun c => ?_, fun _ => ⟨j1, j2, j3⟩⟩
     obtain ⟨d1, d2⟩ := j1.push T1 T2 T3 n1 n2 n3 hl (by cases q : (dget u.2 x).isSome <;> rw [q] at c <;> first | rfl | cases c)
     refine ⟨by rw [sizeLine_eq]; omega, fun z6 ez6 => ⟨by rw [sizeLine_eq]; omega, fun z7 ez7 w5 ew5 => ⟨?_, ?_, ?_⟩⟩⟩
     · show Gone3 m t1 t2 t3 w5 z6
       rw [ew5, ez7, ez6, d1]
       exact d2
     · show w5.length + y.2.1.length = w.length + z6.length
       rw [ew5, ez7, ez6, d1, List.length_append, List.length_append]
       show u.1.length + 1 + _ = _ + (u.2.length + 1)
       omega
     · show y.2.1.length ≤ z6.length
       rw [ez6, d1, List.length_append]
       omega
   · have few3 := j1.few f1 f2 f3
     refine ⟨73728 + u.1.length - 2 * u.2.length, by omega, j1, ?_, ?_, fm⟩
     · show 73728 + u.1.length - 2 * u.2.length + 2 * u.2.length = 73728 + u.1.length
       omega
     · show w1.length + u.1.length = u.2.length
       omega
abbrev s_word : Stmt := topS 28
theorem sc_word : FnScope ["_law_asked", "_law_one", "_law_other", "_law_found", "e"] ["_law_asked", "_law_one", "_law_other"] (defScope s_word) := ⟨rfl, rfl, rfl, by decide +kernel, rfl, by decide +kernel, by decide +kernel⟩
def c_word (K : PySem.W.Frag) (C_Machine : Addr) (f_both : Addr) (f_either : Addr) := Con.fn (K := K) (fun x : (Bool × (List Str × List (List Int) × List Int) × (List Str × List (List Int) × List Int)) => [.val (tFn2 f_both f_either) x.1, .val (ty_Machine C_Machine) x.2.1, .val (ty_Machine C_Machine) x.2.2]) tS pre_word f_word
theorem ok_word (bs : Bs mg) {xa : XA} {C_MeetError : Addr} (xs : Xs K mg xa C_MeetError) {C_Machine : Addr} (cl_Machine : Cl_Machine K C_Machine) {f_both : Addr} {fd_both : FuncData} (g_both : Cal P w K mg base "both" 5 ["one", "other"] (c_both K C_Machine xa).sp f_both fd_both) {f_either : Addr} {fd_either : FuncData} (g_either : Cal P w K mg base "either" 5 ["one", "other"] (c_either K C_Machine xa).sp f_either fd_either) {f : Addr} {fd : FuncData} (F : Fun K "_law_word" "_law_word" s_word f fd) : FnOk P w K mg base (L2.CX P w) 6 f fd ["_law_asked", "_law_one", "_law_other"] (c_word K C_Machine f_both f_either).sp := by
  refine fn_con (c_word K C_Machine f_both f_either) F sc_word (fun _ => rfl) ?_
  intro cdv Ar outer s H E F0 a φ ε hr hp
  have hu := hu_of hr
  have sc := sc_word
  refine' SK.vc ?hh ?vc
  case hh =>
   refine' sk_set (i := 3) (by exact sc.nd) pk_str ?k980
   case k980 =>
    intro found_1
    refine' sk_st (ρ2 := [.val (tFn2 f_both f_either) a.1, .val (ty_Machine C_Machine) a.2.1, .val (ty_Machine C_Machine) a.2.2, .val tS found_1, .un]) (cs2 := []) rfl rfl ?k981
    case k981 =>
     refine' sk_join (fun z_2 : Str => [.val (tFn2 f_both f_either) a.1, .val (ty_Machine C_Machine) a.2.1, .val (ty_Machine C_Machine) a.2.2, .val tS z_2, .un]) (fun z_2 : Str => []) ?h982 ?k983
     case h982 =>
      intro R_3
      refine' sk1_tryA xa (by exact sc.nd) (hd_as (i := 4) ⟨rfl, by decide, .inl xs.g_OtherLetters⟩ rfl rfl (hd_no ⟨rfl, by decide, .inl xs.g_MeetError⟩ hd_nil)) (fun _ => cl_never) (fun _ => cl_never) (fun _ _ => cl_never) (fun _ => cl_never) (fun _ => cl_never) (fun _ => cl_never) ?c_12984 (fun _ _ => cl_never) (fun _ => cl_never) (fun _ => cl_never) cl_never cl_never ?b985
      case c_12984 =>
       refine' cl_as xs.x_OtherLetters_OtherLetters ?k986
       case k986 =>
        intro a_4 oe_5 pn_6 cls_7 d_8 hz_9 hf_10
        refine' sk_st (ρ2 := [.val (tFn2 f_both f_either) a.1, .val (ty_Machine C_Machine) a.2.1, .val (ty_Machine C_Machine) a.2.2, .val tS found_1, .val (tEx xa a_4 cls_7 d_8) .otherLetters]) (cs2 := []) rfl rfl ?k987
        case k987 =>
         refine' sk_set (i := 3) (by exact sc.nd) (pk_op op_add_str r2_addS (pk_op op_add_str r2_addS pk_str (pk_op op_mulS1 r2_mulS1 pk_str (PV.k (pv_ct call_int1 bs.m_int bs.b_int u_intB (PK.v (pk_exIsBx (X := cxOf (L2.CX P w) P w K mg base ["_law_asked", "_law_one", "_law_other", "_law_found", "e"] "_law_word" (defScope s_word) f cdv Ar outer s H E) (a := a_4) (pn := pn_6) xs.c_OtherLetters.is xs.c_OtherLetters.ox hz_9 hf_10 bs.m_isinstance bs.b_isinstance bs.m_ValueError bs.b_ValueError (pk_var (i := 4) rfl) xs.b_OtherLetters_ValueError)))))) (pk_op op_mulS1 r2_mulS1 pk_str (PV.k (pv_ct call_int1 bs.m_int bs.b_int u_intB (PK.v (pk_exIsOx (X := cxOf (L2.CX P w) P w K mg base ["_law_asked", "_law_one", "_law_other", "_law_found", "e"] "_law_word" (defScope s_word) f cdv Ar outer s H E) (a := a_4) (pn := pn_6) xs.c_OtherLetters.is xs.c_OtherLetters.ox hz_9 hf_10 bs.m_isinstance bs.b_isinstance (pk_var (i := 4) rfl) (pk_glob (T := tR) (v := .ref C_MeetError) xs.g_MeetError rfl (fun _ => rfl)) xs.o_OtherLetters_MeetError)))))) ?k988
         case k988 =>
          intro found_11
          refine' sk_st (ρ2 := [.val (tFn2 f_both f_either) a.1, .val (ty_Machine C_Machine) a.2.1, .val (ty_Machine C_Machine) a.2.2, .val tS found_11, .val (tEx xa a_4 cls_7 d_8) .otherLetters]) (cs2 := []) rfl rfl ?k989
          case k989 =>
           exact sk_midSX (z := _) 4 rfl (.same (.same (.same (.same (.same .nil))))) rfl
      case b985 =>
       intro pn_13 xe_14 po_15
       refine' tb_expr (ek_fxTL2 0 rfl rfl g_both.F g_either.F (slC sl1) hr g_both.k g_either.k g_both.b g_either.b (PAK.ak (pa_C (pk_var (i := 1) rfl) (pa_1 (pk_var (i := 2) rfl)))) (fun _ => (by first | exact fun _ h => kp0 h | exact fun _ h => h | exact fun _ h => List.mem_cons.mpr (Or.inl (List.mem_singleton.mp h)))) (fun r h => ⟨r, rfl, h⟩)) ?k990
       case k990 =>
        intro y_16
        exact sk_midX (z := _) rfl (.same (.same (.same (.same (.same .nil))))) rfl
     case k983 =>
      intro z_2
      exact sk_retF (pk_var (i := 3) rfl)
  case vc =>
   intro h
   simp only [true_and, and_true, yes1, yes2]
   obtain ⟨b, one, other⟩ := a
   obtain ⟨hp, hφ⟩ := h
   have hφ : φ (f_word (b, one, other)) := hφ _ rfl
   intro z ez
   refine ⟨fun z => z = f_word (b, one, other), ⟨hp, fun r hr => ?_, fun r hr => ?_⟩, fun z hz => by rw [hz]; exact hφ⟩
   · have eq : one.1 = other.1 := Classical.byContradiction fun ne => by
       have q1 : K11.g_both (one, other) = .inr .otherLetters := if_neg ne
       have q2 : K11.g_either (one, other) = .inr .otherLetters := if_neg ne
       dsimp only at hr
       cases b with
       | true => rw [if_pos rfl, q2] at hr; cases hr
       | false => rw [if_neg Bool.false_ne_true, q1] at hr; cases hr
     rw [ez]
     exact (if_pos eq).symm
   · have ne : ¬ one.1 = other.1 := fun c => by
       have q1 : K11.g_both (one, other) = .inl (bothM (one, other)) := if_pos c
       have q2 : K11.g_either (one, other) = .inl (eitherM (one, other)) := if_pos c
       dsimp only at hr
       cases b with
       | true => rw [if_pos rfl, q2] at hr; cases hr
       | false => rw [if_neg Bool.false_ne_true, q1] at hr; cases hr
     have er : r = .otherLetters := by
       have q1 : K11.g_both (one, other) = .inr .otherLetters := if_neg ne
       have q2 : K11.g_either (one, other) = .inr .otherLetters := if_neg ne
       dsimp only at hr
       cases b with
       | true => rw [if_pos rfl, q2] at hr; exact (Sum.inr.inj hr).symm
       | false => rw [if_neg Bool.false_ne_true, q1] at hr; exact (Sum.inr.inj hr).symm
     subst er
     refine ⟨⟨⟨by decide, by decide⟩, by decide, by decide⟩, fun z2 ez2 => ?_⟩
     rw [ez2]
     refine Eq.trans ?_ (if_neg ne).symm
     decide
abbrev s_strange : Stmt := topS 29
theorem sc_strange : FnScope ["_law_flow_here", "_law_letters", "_law_form", "_law_spare", "_law_at", "_law_one"] ["_law_flow_here", "_law_letters"] (defScope s_strange) := ⟨rfl, rfl, rfl, by decide +kernel, rfl, by decide +kernel, by decide +kernel⟩
def c_strange (K : PySem.W.Frag) := Con.o1 (K := K) tI (fun x : (List Str) => [.val (tL tS) x]) (tL tS) pre_strange post_strange
theorem ok_strange (bs : Bs mg) {f_draw : Addr} {fd_draw : FuncData} (g_draw : Cal P w K mg base "_law_draw" 1 ["_law_flow_here", "_law_many"] (c_draw K).sp f_draw fd_draw) {f : Addr} {fd : FuncData} (F : Fun K "_law_strange" "_law_strange" s_strange f fd) : FnOk P w K mg base (L2.CX P w) 2 f fd ["_law_flow_here", "_law_letters"] (c_strange K).sp := by
  refine fn_con (c_strange K) F sc_strange (fun _ => rfl) ?_
  intro cdv Ar outer s H E F0 a φ ε hr hp
  have hu := hu_of hr
  have sc := sc_strange
  refine' SK.vc ?hh ?vc
  case hh =>
   refine' sk_setE (i := 2) (by exact sc.nd) (ek_o1 0 g_draw.F sl1 hr g_draw.m g_draw.k g_draw.b (pk_var (i := 0) rfl) (PAK.ak (pa_1 pk_int)) (fun _ => rfl)) ?k1013
   case k1013 =>
    intro y_2 form_1
    refine' sk_name 0 rfl ?k1014
    case k1014 =>
     intro w_3
     refine' sk_st (ρ2 := [.val tR a.1, .val (tL tS) a.2.2, .val tI form_1, .un, .un, .un]) (cs2 := [⟨a.1, cL tI w_3⟩]) rfl rfl ?k1015
     case k1015 =>
      refine' sk_st (ρ2 := [.val tR a.1, .val (tL tS) a.2.2, .val tI form_1, .un, .un, .un]) (cs2 := [⟨a.1, cL tI w_3⟩]) rfl rfl ?k1016
      case k1016 =>
       refine' sk_setE (i := 3) (by exact sc.nd) (ek_ixR (T := tS) (EV.lk (NE.l (ne_lc rfl (by exact sc.nd) ?lc150 ?lc149 ?lc151))) (fun _ => pk_int)) ?k1020
       case lc150 =>
        exact blkOk_by (own := [("_law_one", 5)]) (N := ["_law_flow_here", "_law_letters", "_law_form", "_law_spare", "_law_at", "_law_one"]) (sc := defScope s_strange) (by decide +kernel)
       case lc149 =>
        exact lc_k (own := [("_law_one", 5)]) (T := tS) (U := tS) (G := fun ρ x => (List.set ρ 5 (.val tS x))) (vs := [5]) (cs' := (fun _ : Unit => [⟨a.1, cL tI w_3⟩])) (z0 := fun y => ()) (s1 := fun _ _ _ => ()) (s2 := fun _ _ _ _ => ()) (IK.ie (ik_str pk_str)) (fun _ => rfl) (by decide) (fun _ _ _ _ _ => (gk_name (i := 5) (by exact sc.nd))) (fun _ _ _ _ _ _ _ => (ts_1 (PTK.tk (pt_nin fS (pk_var (i := 5) rfl) (PV.q (PK.l (pk_var (i := 1) rfl))))))) (fun _ _ _ _ _ _ _ _ => (PK.ek (pk_var (i := 5) rfl)))
       case lc151 =>
        exact fun _ => rfl
       case k1020 =>
        intro y_9 spare_8
        refine' sk_st (ρ2 := [.val tR a.1, .val (tL tS) a.2.2, .val tI form_1, .val tS spare_8, .un, .un]) (cs2 := [⟨a.1, cL tI w_3⟩]) rfl rfl ?k1021
        case k1021 =>
         refine' sk_setE (i := 4) (by exact sc.nd) (ek_o1 0 g_draw.F sl1 hr g_draw.m g_draw.k g_draw.b (pk_var (i := 0) rfl) (PAK.ak (pa_1 (PV.k (pv_cb cr_lenQ bs.m_len bs.b_len u_len (PV.q (PK.l (pk_var (i := 1) rfl))))))) (fun _ => rfl)) ?k1022
         case k1022 =>
          intro y_11 at_10
          refine' sk_name 0 rfl ?k1023
          case k1023 =>
           intro w_12
           refine' sk_st (ρ2 := [.val tR a.1, .val (tL tS) a.2.2, .val tI form_1, .val tS spare_8, .val tI at_10, .un]) (cs2 := [⟨a.1, cL tI w_12⟩]) rfl rfl ?k1024
           case k1024 =>
            refine' sk_st (ρ2 := [.val tR a.1, .val (tL tS) a.2.2, .val tI form_1, .val tS spare_8, .val tI at_10, .un]) (cs2 := [⟨a.1, cL tI w_12⟩]) rfl rfl ?k1025
            case k1025 =>
             refine' sk_seq (sk_if1 (PWK.pt (pw_and' (pt_cmp' op_eq r2_eqI (pk_var (i := 2) rfl) pk_int) (pw_and1' (pt_cmp' op_gt r2_B0 (PV.k (pv_cb cr_lenQ bs.m_len bs.b_len u_len (PV.q (PK.l (pk_var (i := 1) rfl))))) pk_int)))) ?a1026 ?b1027)
             case a1026 =>
              exact sk_retO (NK.pk (nk_if (pt_cmp' op_lt r2_B0 (pk_op op_add r2_I0 (pk_var (i := 4) rfl) pk_int) (PV.k (pv_cb cr_lenQ bs.m_len bs.b_len u_len (PV.q (PK.l (pk_var (i := 1) rfl)))))) (nk_cat (NK.l (nk_slL (PV.lk (PK.l (pk_var (i := 1) rfl))) (po_1 (pk_op op_add r2_I0 (pk_var (i := 4) rfl) pk_int)) po_0)) (NK.l (nk_slL (PV.lk (PK.l (pk_var (i := 1) rfl))) po_0 (po_1 (pk_op op_add r2_I0 (pk_var (i := 4) rfl) pk_int))))) (nk_cat (NK.l (nk_slL (PV.lk (PK.l (pk_var (i := 1) rfl))) (po_1 pk_int) po_0)) (NK.l (nk_slL (PV.lk (PK.l (pk_var (i := 1) rfl))) po_0 (po_1 pk_int)))))) rfl
             case b1027 =>
              refine' sk_nilX rfl ?k1028
              case k1028 =>
               refine' sk_seq (sk_if1 (PWK.pt (pw_and' (pt_cmp' op_eq r2_eqI (pk_var (i := 2) rfl) pk_int) (pw_and1' (pt_cmp' op_gt r2_B0 (PV.k (pv_cb cr_lenQ bs.m_len bs.b_len u_len (PV.q (PK.l (pk_var (i := 1) rfl))))) pk_int)))) ?a1029 ?b1030)
               case a1029 =>
                exact sk_retO (NK.pk (nk_cat (NK.l (nk_slL (PV.lk (PK.l (pk_var (i := 1) rfl))) po_0 (po_1 (pk_var (i := 4) rfl)))) (NK.l (nk_slL (PV.lk (PK.l (pk_var (i := 1) rfl))) (po_1 (pk_op op_add r2_I0 (pk_var (i := 4) rfl) pk_int)) po_0)))) rfl
               case b1030 =>
                refine' sk_nilX rfl ?k1031
                case k1031 =>
                 refine' sk_seq (sk_if1 (pt_cmp' op_eq r2_eqI (pk_var (i := 2) rfl) pk_int) ?a1032 ?b1033)
                 case a1032 =>
                  exact sk_retO (NK.pk (nk_cat (NK.l (nk_cat (NK.l (nk_slL (PV.lk (PK.l (pk_var (i := 1) rfl))) po_0 (po_1 (pk_var (i := 4) rfl)))) (NK.l (nk_lst (pl_C (pk_var (i := 3) rfl) pl_0) (Nat.le_of_ble_eq_true rfl))))) (NK.l (nk_slL (PV.lk (PK.l (pk_var (i := 1) rfl))) (po_1 (pk_op op_add r2_I0 (pk_var (i := 4) rfl) pk_int)) po_0)))) rfl
                 case b1033 =>
                  refine' sk_nilX rfl ?k1034
                  case k1034 =>
                   exact sk_retO (NK.pk (nk_cat (NK.l (nk_cat (NK.l (nk_slL (PV.lk (PK.l (pk_var (i := 1) rfl))) po_0 (po_1 (pk_var (i := 4) rfl)))) (NK.l (nk_lst (pl_C (pk_var (i := 3) rfl) pl_0) (Nat.le_of_ble_eq_true rfl))))) (NK.l (nk_slL (PV.lk (PK.l (pk_var (i := 1) rfl))) (po_1 (pk_var (i := 4) rfl)) po_0)))) rfl
  case vc =>
   intro h
   simp only [true_and, and_true, yes1, yes2]
   obtain ⟨p, fl, ls⟩ := a
   obtain ⟨⟨hf, hL, h6⟩, hφ⟩ := h
   have hf : Fl fl := hf
   have hL : LsOk ls := hL
   have h6 : ls.length ≤ 6 := h6
   have l1 : 0 < ls.length := List.length_pos_iff.mpr hL.ne
   have hφ : ∀ r w, Fl w → (LsOk r ∧ r ≠ ls) → φ (r, w) := fun r w h1 h2 => hφ r w ⟨h1, h2.1, h2.2⟩
   try dsimp only
   have al : abc.length ≤ sizeLine := by rw [abc_len, sizeLine_eq]; decide
   have cl : ∀ a b, (cutA ls a b).length ≤ 7 := fun a b => cut_len (by omega)
   refine ⟨⟨hf, by decide, by decide⟩, fun r w ⟨r0, r1, f1⟩ z ez w1 ew1 => ⟨al, fun i acc _ => acc = ((MD.signs abc).take i).filter fun d => !decide (d ∈ ls), rfl, fun i acc _ d hd hI => ⟨fun e => ?_, fun e => ?_⟩, fun acc _ hI => ?_⟩⟩
   · have hd : (MD.signs abc)[i]? = some d := hd
     dsimp only at hI ⊢; rw [filt_yes hd e, hI]
   · have hd : (MD.signs abc)[i]? = some d := hd
     dsimp only at hI ⊢; rw [filt_no hd e, hI]
   have hI : acc = ((MD.signs abc).take (MD.signs abc).length).filter fun d => !decide (d ∈ ls) := hI
   rw [List.take_length] at hI
   obtain ⟨s, s1, s2⟩ := free_letter (found := ls) (by omega)
   have hp : 0 < acc.length := List.length_pos_of_mem (a := s) (by rw [hI]; exact List.mem_filter.mpr ⟨s1, by simpa using s2⟩)
   refine ⟨⟨by omega, by omega⟩, fun sp esp => ?_⟩
   have hm : sp ∈ acc := by rw [esp]; exact pyIx_mem (by omega) (by omega)
   rw [hI] at hm
   obtain ⟨m1, m2⟩ := List.mem_filter.mp hm
   have hsn : sp ∉ ls := by simpa using m2
   have hsw : Word sp := by
     rw [signs_abc] at m1
     obtain ⟨c, hc, rfl⟩ := List.mem_map.mp m1
     exact sgn_word (List.mem_range.mp hc)
   refine ⟨⟨by rw [ew1]; exact f1, by omega, by omega⟩, fun q w2 ⟨q0, q1, f2⟩ at0 eat w3 ew3 => ?_⟩
   have f3 : Fl w3 := by rw [ew3]; exact f2
   obtain ⟨k, rfl⟩ : ∃ k : Nat, at0 = (k : Int) := ⟨at0.toNat, by omega⟩
   have hk : k < ls.length := by omega
   have c1 : ∀ a b c d, (cutA ls a b).length + (cutA ls c d).length ≤ sizeLine := fun a b c d => by
     have := cl a b
     have := cl c d
     rw [sizeLine_eq]
     omega
   have c2 : ∀ a b, (cutA ls a b).length + [sp].length ≤ sizeLine := fun a b => by
     have := cl a b
     rw [sizeLine_eq]
     show _ + 1 ≤ _
     omega
   have c3 : ∀ a b c d, (cutA ls a b ++ [sp]).length + (cutA ls c d).length ≤ sizeLine := fun a b c d => by
     have := cl a b
     have := cl c d
     rw [List.length_append, sizeLine_eq]
     show _ + 1 + _ ≤ _
     omega
   have e1 : (k : Int) + 1 = ((k + 1 : Nat) : Int) := by omega
   refine ⟨fun _ => trivial, fun e => ⟨⟨fun _ => c1 _ _ _ _, fun _ => c1 _ _ _ _⟩, ?_⟩, fun _ => ⟨fun _ => trivial, fun e => ⟨c1 _ _ _ _, ?_⟩, fun _ => ⟨fun _ => ⟨⟨c2 _ _, c3 _ _ _ _⟩, ?_⟩, fun _ => ⟨⟨c2 _ _, c3 _ _ _ _⟩, ?_⟩⟩⟩⟩
   · rw [Bool.and_eq_true, decide_eq_true_iff, decide_eq_true_iff] at e
     refine hφ _ _ f3 ?_
     by_cases c : (k : Int) + 1 < (ls.length : Int)
     · rw [decide_eq_true c, if_pos rfl, e1, cutA_from, cutA_to']
       exact ls_rot hL (Nat.succ_pos _) (by omega)
     · rw [decide_eq_false c, if_neg Bool.false_ne_true, show (some (1 : Int)) = some ((1 : Nat) : Int) from rfl, cutA_from, cutA_to']
       exact ls_rot hL (by decide) (by omega)
   · rw [Bool.and_eq_true, decide_eq_true_iff, decide_eq_true_iff] at e
     refine hφ _ _ f3 ?_
     rw [e1, cutA_from, cutA_to']
     exact ls_out hL hk (by omega)
   · refine hφ _ _ f3 ?_
     rw [e1, cutA_from, cutA_to']
     exact ls_put hL h6 hsw hsn (by omega)
   · refine hφ _ _ f3 ?_
     rw [cutA_from, cutA_to']
     exact ls_put hL h6 hsw hsn (Nat.le_refl _)
abbrev s_right : Stmt := topS 30
theorem sc_right : FnScope ["_law_letters", "_law_one", "_law_other", "_law_further", "_law_first", "_law_second", "_law_third", "_law_kept", "_law_found", "_law_beside", "_law_again", "_law_some", "_law_low", "_law_x", "_law_y", "_law_z"] ["_law_letters", "_law_one", "_law_other", "_law_further"] (defScope s_right) := ⟨rfl, rfl, rfl, by decide +kernel, rfl, by decide +kernel, by decide +kernel⟩
def c_right (K : PySem.W.Frag) := Con.fn (K := K) (fun x : ((List Str) × ((List (List Int)) × (List Int)) × ((List (List Int)) × (List Int)) × ((List (List Int)) × (List Int))) => [.val (tL tS) x.1, .val (tT (tsC (tL (tL tI)) (ts1 (tL tI)))) x.2.1, .val (tT (tsC (tL (tL tI)) (ts1 (tL tI)))) x.2.2.1, .val (tT (tsC (tL (tL tI)) (ts1 (tL tI)))) x.2.2.2]) tB pre_right f_right
theorem ok_right (bs : Bs mg) {xa : XA} {C_MeetError : Addr} (xs : Xs K mg xa C_MeetError) {C_Machine : Addr} (cl_Machine : Cl_Machine K C_Machine) {f_both : Addr} {fd_both : FuncData} (g_both : Cal P w K mg base "both" 5 ["one", "other"] (c_both K C_Machine xa).sp f_both fd_both) {f_either : Addr} {fd_either : FuncData} (g_either : Cal P w K mg base "either" 5 ["one", "other"] (c_either K C_Machine xa).sp f_either fd_either) {f_Machine_init : Addr} {fd_Machine_init : FuncData} (g_Machine_init : MkC P w K mg base C_Machine "Machine" 2 ["self", "letters", "table", "good"] (c_Machine_init K C_Machine).sp f_Machine_init fd_Machine_init) {f_formed : Addr} {fd_formed : FuncData} (g_formed : CalG P w K mg base "_law_formed" 1 ["_law_machine_here", "_law_letters"] (c_formed K C_Machine).sp f_formed fd_formed) {f_is_least : Addr} {fd_is_least : FuncData} (g_is_least : Cal P w K mg base "_law_is_least" 2 ["_law_machine_here"] (c_is_least K C_Machine).sp f_is_least fd_is_least) {f_three : Addr} {fd_three : FuncData} (g_three : Cal P w K mg base "_law_three" 1 ["_law_one", "_law_other", "_law_low"] (c_three K C_Machine).sp f_three fd_three) {f_turned : Addr} {fd_turned : FuncData} (g_turned : Cal P w K mg base "turned" 5 ["machine"] (c_turned K C_Machine).sp f_turned fd_turned) {f : Addr} {fd : FuncData} (F : Fun K "_law_right" "_law_right" s_right f fd) : FnG P w K mg base 7 f fd ["_law_letters", "_law_one", "_law_other", "_law_further"] (c_right K).sp := by
  refine fn_conG (c_right K) F sc_right (fun _ => rfl) ?_
  intro cdv Ar outer s H E F0 a φ ε hgd hr hp
  have hu := hu_of hr
  have sc := sc_right
  refine' SK.vc ?hh ?vc
  case hh =>
   refine' sk_setG (gk_lstT rfl (gs_C (gk_name (i := 4) (by exact sc.nd)) (gs_C (gk_name (i := 5) (by exact sc.nd)) (gs_1 (gk_name (i := 6) (by exact sc.nd))))) (tlC (tlC tl1))) (EK.lt (T := (ty_Machine C_Machine)) (ltcC (ltcC ltc1)) ?lc155) ?k1108
   case lc155 =>
    refine' NE.ek (ne_lc rfl (by exact sc.nd) ?lc153 ?lc152 ?lc154)
    case lc153 =>
     exact blkOk_by (own := [("_law_some", 11)]) (N := ["_law_letters", "_law_one", "_law_other", "_law_further", "_law_first", "_law_second", "_law_third", "_law_kept", "_law_found", "_law_beside", "_law_again", "_law_some", "_law_low", "_law_x", "_law_y", "_law_z"]) (sc := defScope s_right) (by decide +kernel)
    case lc152 =>
     exact lc_k (own := [("_law_some", 11)]) (T := (tT (tsC (tL (tL tI)) (ts1 (tL tI))))) (U := (ty_Machine C_Machine)) (G := fun ρ x => (List.set ρ 11 (.val (tT (tsC (tL (tL tI)) (ts1 (tL tI)))) x))) (vs := [11]) (cs' := (fun _ : Unit => [])) (z0 := fun y => ()) (s1 := fun _ _ _ => ()) (s2 := fun _ _ _ _ => ()) (IK.ie (ik_tup (pk_tupU (pl_C (pk_var (i := 1) rfl) (pl_C (pk_var (i := 2) rfl) (pl_C (pk_var (i := 3) rfl) pl_0))) (Nat.le_of_ble_eq_true rfl)))) (fun _ => rfl) (by decide) (fun _ _ _ _ _ => (gk_name (i := 11) (by exact sc.nd))) (fun _ _ _ _ _ _ _ => ts_0) (fun _ _ _ _ _ _ _ _ => (ek_makeS g_Machine_init (hr.mono (by decide)) (slC (slC sl1)) (PAK.ak (pa_C (pk_var (i := 0) rfl) (pa_C (pk_ixT Nth.here (pk_var (i := 11) rfl)) (pa_1 (pk_ixT (Nth.next Nth.one) (pk_var (i := 11) rfl))))))))
    case lc154 =>
     exact fun _ => rfl
   case k1108 =>
    intro y_3 z_4
    refine' sk_st (ρ2 := [.val (tL tS) a.1, .val (tT (tsC (tL (tL tI)) (ts1 (tL tI)))) a.2.1, .val (tT (tsC (tL (tL tI)) (ts1 (tL tI)))) a.2.2.1, .val (tT (tsC (tL (tL tI)) (ts1 (tL tI)))) a.2.2.2, .val (ty_Machine C_Machine) z_4.1, .val (ty_Machine C_Machine) z_4.2.1, .val (ty_Machine C_Machine) z_4.2.2, .un, .un, .un, .un, .un, .un, .un, .un, .un]) (cs2 := []) rfl rfl ?k1112
    case k1112 =>
     refine' sk_set (i := 7) (by exact sc.nd) (PV.k (pv_cb (cr_repr hgd hr) bs.m_repr bs.b_repr (u_repr (dT (dsC (dU (@dS K)) (dsC (dU (dU (@dI K))) (dsC (dU (@dI K)) (dsC (dU (@dS K)) (dsC (dU (dU (@dI K))) (ds1 (dU (@dI K))))))))) tT_ref (Nat.le_of_ble_eq_true rfl)) (PK.v (pk_tup (pa_C (PK.uf (pk_fld cl_Machine.c cl_Machine.n_letters (PK.ins (pk_var (i := 4) rfl)))) (pa_C (pk_fld cl_Machine.c cl_Machine.n_table (PK.ins (pk_var (i := 4) rfl))) (pa_C (pk_fld cl_Machine.c cl_Machine.n_good (PK.ins (pk_var (i := 4) rfl))) (pa_C (PK.uf (pk_fld cl_Machine.c cl_Machine.n_letters (PK.ins (pk_var (i := 5) rfl)))) (pa_C (pk_fld cl_Machine.c cl_Machine.n_table (PK.ins (pk_var (i := 5) rfl))) (pa_1 (pk_fld cl_Machine.c cl_Machine.n_good (PK.ins (pk_var (i := 5) rfl))))))))) (fun F vs => (lenC (lenC (lenC (lenC (lenC len1))))) F vs _))))) ?k1113
     case k1113 =>
      intro kept_5
      refine' sk_st (ρ2 := [.val (tL tS) a.1, .val (tT (tsC (tL (tL tI)) (ts1 (tL tI)))) a.2.1, .val (tT (tsC (tL (tL tI)) (ts1 (tL tI)))) a.2.2.1, .val (tT (tsC (tL (tL tI)) (ts1 (tL tI)))) a.2.2.2, .val (ty_Machine C_Machine) z_4.1, .val (ty_Machine C_Machine) z_4.2.1, .val (ty_Machine C_Machine) z_4.2.2, .val tSx kept_5, .un, .un, .un, .un, .un, .un, .un, .un]) (cs2 := []) rfl rfl ?k1114
      case k1114 =>
       refine' sk_setE (i := 8) (by exact sc.nd) (NE.ek (ek_lst (al_C (ek_fx g_both.F (slC sl1) (hr.mono (by decide)) g_both.m g_both.k g_both.b (PAK.ak (pa_C (pk_var (i := 4) rfl) (pa_1 (pk_var (i := 5) rfl)))) (fun _ => (by first | exact fun _ h => kp0 h | exact fun _ h => h | exact fun _ h => List.mem_cons.mpr (Or.inl (List.mem_singleton.mp h))))) (fun _ => (al_C (ek_fx g_either.F (slC sl1) (hr.mono (by decide)) g_either.m g_either.k g_either.b (PAK.ak (pa_C (pk_var (i := 4) rfl) (pa_1 (pk_var (i := 5) rfl)))) (fun _ => (by first | exact fun _ h => kp0 h | exact fun _ h => h | exact fun _ h => List.mem_cons.mpr (Or.inl (List.mem_singleton.mp h))))) (fun _ => (al_C (ek_fp g_turned.F sl1 (hr.mono (by decide)) g_turned.m g_turned.k g_turned.b (PAK.ak (pa_1 (pk_var (i := 4) rfl)))) (fun _ => al_0)))))) (fun _ => by simp))) ?k1115
       case k1115 =>
        intro y_7 found_6
        refine' sk_st (ρ2 := [.val (tL tS) a.1, .val (tT (tsC (tL (tL tI)) (ts1 (tL tI)))) a.2.1, .val (tT (tsC (tL (tL tI)) (ts1 (tL tI)))) a.2.2.1, .val (tT (tsC (tL (tL tI)) (ts1 (tL tI)))) a.2.2.2, .val (ty_Machine C_Machine) z_4.1, .val (ty_Machine C_Machine) z_4.2.1, .val (ty_Machine C_Machine) z_4.2.2, .val tSx kept_5, .val (tL (ty_Machine C_Machine)) found_6, .un, .un, .un, .un, .un, .un, .un]) (cs2 := []) rfl rfl ?k1116
        case k1116 =>
         refine' sk_seq (sk_if1E (tk_not (tk_val (EV.k (ev_cb (cr_all rfl) bs.m_all bs.b_all (fun _ => u_all) (EV.lk (NE.l (ne_lc rfl (by exact sc.nd) ?lc157 ?lc156 ?lc158))))))) ?a1120 ?b1121)
         case lc157 =>
          exact blkOk_by (own := [("_law_low", 12)]) (N := ["_law_letters", "_law_one", "_law_other", "_law_further", "_law_first", "_law_second", "_law_third", "_law_kept", "_law_found", "_law_beside", "_law_again", "_law_some", "_law_low", "_law_x", "_law_y", "_law_z"]) (sc := defScope s_right) (by decide +kernel)
         case lc156 =>
          exact lc_k (own := [("_law_low", 12)]) (T := (ty_Machine C_Machine)) (U := tB) (G := fun ρ x => (List.set ρ 12 (.val (ty_Machine C_Machine) x))) (vs := [12]) (cs' := (fun _ : Unit => [])) (z0 := fun y => ()) (s1 := fun _ _ _ => ()) (s2 := fun _ _ _ _ => ()) (IK.ie (ik_list (pk_var (i := 8) rfl))) (fun _ => rfl) (by decide) (fun _ _ _ _ _ => (gk_name (i := 12) (by exact sc.nd))) (fun _ _ _ _ _ _ _ => ts_0) (fun _ _ _ _ _ _ _ _ => (PK.ek (pk_and (pk_fnG g_formed (slC sl1) (hr.mono (by decide)) hgd (pa_C (pk_var (i := 12) rfl) (pa_1 (pk_var (i := 0) rfl)))) (pk_one (pk_fn g_is_least.F sl1 (hr.mono (by decide)) g_is_least.m g_is_least.k g_is_least.b (pa_1 (pk_var (i := 12) rfl)))))))
         case lc158 =>
          exact fun _ => rfl
         case a1120 =>
          intro y_10
          exact sk_retF pk_bl
         case b1121 =>
          intro y_11
          refine' sk_nilX rfl ?k1122
          case k1122 =>
           refine' sk_seq (sk_if1E (tk_not (tk_val (EV.k (ev_cb (cr_all rfl) bs.m_all bs.b_all (fun _ => u_all) (EV.lk (NE.l (ne_lc rfl (by exact sc.nd) ?lc160 ?lc159 ?lc161))))))) ?a1126 ?b1127)
           case lc160 =>
            exact blkOk_by (own := [("_law_x", 13), ("_law_y", 14), ("_law_z", 15)]) (N := ["_law_letters", "_law_one", "_law_other", "_law_further", "_law_first", "_law_second", "_law_third", "_law_kept", "_law_found", "_law_beside", "_law_again", "_law_some", "_law_low", "_law_x", "_law_y", "_law_z"]) (sc := defScope s_right) (by decide +kernel)
           case lc159 =>
            exact lc_k (own := [("_law_x", 13), ("_law_y", 14), ("_law_z", 15)]) (T := (tT (tsC tB (tsC tB (ts1 tB))))) (U := tB) (G := fun ρ x => (List.set (List.set (List.set ρ 13 (.val tB x.1)) 14 (.val tB x.2.1)) 15 (.val tB x.2.2))) (vs := [13, 14, 15]) (cs' := (fun _ : Unit => [])) (z0 := fun y => ()) (s1 := fun _ _ _ => ()) (s2 := fun _ _ _ _ => ()) (ie_list (ek_fp g_three.F (slC (slC sl1)) (hr.mono (by decide)) g_three.m g_three.k g_three.b (PAK.ak (pa_C (pk_var (i := 1) rfl) (pa_C (pk_var (i := 2) rfl) (pa_1 (pk_ixR (T := (ty_Machine C_Machine)) (PV.lk (PK.l (pk_var (i := 8) rfl))) pk_int))))))) (fun _ => rfl) (by decide) (fun _ _ _ _ _ => (gk_tup rfl (gs_C (gk_name (i := 13) (by exact sc.nd)) (gs_C (gk_name (i := 14) (by exact sc.nd)) (gs_1 (gk_name (i := 15) (by exact sc.nd))))) (tlC (tlC tl1)))) (fun _ _ _ _ _ _ _ => ts_0) (fun _ _ _ _ _ _ _ _ => (PK.ek (pk_cmp op_eq r2_eqB (pk_var (i := 15) rfl) (pk_and (pk_var (i := 13) rfl) (pk_one (pk_var (i := 14) rfl))))))
           case lc161 =>
            exact fun _ => rfl
           case a1126 =>
            intro y_14
            exact sk_retF pk_bl
           case b1127 =>
            intro y_15
            refine' sk_nilX rfl ?k1128
            case k1128 =>
             refine' sk_seq (sk_if1E (tk_not (tk_val (EV.k (ev_cb (cr_all rfl) bs.m_all bs.b_all (fun _ => u_all) (EV.lk (NE.l (ne_lc rfl (by exact sc.nd) ?lc163 ?lc162 ?lc164))))))) ?a1132 ?b1133)
             case lc163 =>
              exact blkOk_by (own := [("_law_x", 13), ("_law_y", 14), ("_law_z", 15)]) (N := ["_law_letters", "_law_one", "_law_other", "_law_further", "_law_first", "_law_second", "_law_third", "_law_kept", "_law_found", "_law_beside", "_law_again", "_law_some", "_law_low", "_law_x", "_law_y", "_law_z"]) (sc := defScope s_right) (by decide +kernel)
             case lc162 =>
              exact lc_k (own := [("_law_x", 13), ("_law_y", 14), ("_law_z", 15)]) (T := (tT (tsC tB (tsC tB (ts1 tB))))) (U := tB) (G := fun ρ x => (List.set (List.set (List.set ρ 13 (.val tB x.1)) 14 (.val tB x.2.1)) 15 (.val tB x.2.2))) (vs := [13, 14, 15]) (cs' := (fun _ : Unit => [])) (z0 := fun y => ()) (s1 := fun _ _ _ => ()) (s2 := fun _ _ _ _ => ()) (ie_list (ek_fp g_three.F (slC (slC sl1)) (hr.mono (by decide)) g_three.m g_three.k g_three.b (PAK.ak (pa_C (pk_var (i := 1) rfl) (pa_C (pk_var (i := 2) rfl) (pa_1 (pk_ixR (T := (ty_Machine C_Machine)) (PV.lk (PK.l (pk_var (i := 8) rfl))) pk_int))))))) (fun _ => rfl) (by decide) (fun _ _ _ _ _ => (gk_tup rfl (gs_C (gk_name (i := 13) (by exact sc.nd)) (gs_C (gk_name (i := 14) (by exact sc.nd)) (gs_1 (gk_name (i := 15) (by exact sc.nd))))) (tlC (tlC tl1)))) (fun _ _ _ _ _ _ _ => ts_0) (fun _ _ _ _ _ _ _ _ => (PK.ek (pk_cmp op_eq r2_eqB (pk_var (i := 15) rfl) (pk_or (pk_var (i := 13) rfl) (pk_one (pk_var (i := 14) rfl))))))
             case lc164 =>
              exact fun _ => rfl
             case a1132 =>
              intro y_18
              exact sk_retF pk_bl
             case b1133 =>
              intro y_19
              refine' sk_nilX rfl ?k1134
              case k1134 =>
               refine' sk_seq (sk_if1E (tk_not (tk_val (EV.k (ev_cb (cr_all rfl) bs.m_all bs.b_all (fun _ => u_all) (EV.lk (NE.l (ne_lc rfl (by exact sc.nd) ?lc166 ?lc165 ?lc167))))))) ?a1138 ?b1139)
               case lc166 =>
                exact blkOk_by (own := [("_law_x", 13), ("_law_y", 14), ("_law_z", 15)]) (N := ["_law_letters", "_law_one", "_law_other", "_law_further", "_law_first", "_law_second", "_law_third", "_law_kept", "_law_found", "_law_beside", "_law_again", "_law_some", "_law_low", "_law_x", "_law_y", "_law_z"]) (sc := defScope s_right) (by decide +kernel)
               case lc165 =>
                exact lc_k (own := [("_law_x", 13), ("_law_y", 14), ("_law_z", 15)]) (T := (tT (tsC tB (tsC tB (ts1 tB))))) (U := tB) (G := fun ρ x => (List.set (List.set (List.set ρ 13 (.val tB x.1)) 14 (.val tB x.2.1)) 15 (.val tB x.2.2))) (vs := [13, 14, 15]) (cs' := (fun _ : Unit => [])) (z0 := fun y => ()) (s1 := fun _ _ _ => ()) (s2 := fun _ _ _ _ => ()) (ie_list (ek_fp g_three.F (slC (slC sl1)) (hr.mono (by decide)) g_three.m g_three.k g_three.b (PAK.ak (pa_C (pk_var (i := 1) rfl) (pa_C (pk_var (i := 2) rfl) (pa_1 (pk_ixR (T := (ty_Machine C_Machine)) (PV.lk (PK.l (pk_var (i := 8) rfl))) pk_int))))))) (fun _ => rfl) (by decide) (fun _ _ _ _ _ => (gk_tup rfl (gs_C (gk_name (i := 13) (by exact sc.nd)) (gs_C (gk_name (i := 14) (by exact sc.nd)) (gs_1 (gk_name (i := 15) (by exact sc.nd))))) (tlC (tlC tl1)))) (fun _ _ _ _ _ _ _ => ts_0) (fun _ _ _ _ _ _ _ _ => (PK.ek (pk_cmp op_ne r2_neB (pk_var (i := 15) rfl) (pk_var (i := 13) rfl))))
               case lc167 =>
                exact fun _ => rfl
               case a1138 =>
                intro y_22
                exact sk_retF pk_bl
               case b1139 =>
                intro y_23
                refine' sk_nilX rfl ?k1140
                case k1140 =>
                 refine' sk_setE (i := 9) (by exact sc.nd) (NE.ek (ek_lst (al_C (ek_fx g_both.F (slC sl1) (hr.mono (by decide)) g_both.m g_both.k g_both.b (PAK.ak (pa_C (pk_var (i := 4) rfl) (pa_1 (pk_var (i := 6) rfl)))) (fun _ => (by first | exact fun _ h => kp0 h | exact fun _ h => h | exact fun _ h => List.mem_cons.mpr (Or.inl (List.mem_singleton.mp h))))) (fun _ => (al_C (ek_fx g_either.F (slC sl1) (hr.mono (by decide)) g_either.m g_either.k g_either.b (PAK.ak (pa_C (pk_var (i := 4) rfl) (pa_1 (pk_var (i := 6) rfl)))) (fun _ => (by first | exact fun _ h => kp0 h | exact fun _ h => h | exact fun _ h => List.mem_cons.mpr (Or.inl (List.mem_singleton.mp h))))) (fun _ => al_0)))) (fun _ => by simp))) ?k1141
                 case k1141 =>
                  intro y_25 beside_24
                  refine' sk_st (ρ2 := [.val (tL tS) a.1, .val (tT (tsC (tL (tL tI)) (ts1 (tL tI)))) a.2.1, .val (tT (tsC (tL (tL tI)) (ts1 (tL tI)))) a.2.2.1, .val (tT (tsC (tL (tL tI)) (ts1 (tL tI)))) a.2.2.2, .val (ty_Machine C_Machine) z_4.1, .val (ty_Machine C_Machine) z_4.2.1, .val (ty_Machine C_Machine) z_4.2.2, .val tSx kept_5, .val (tL (ty_Machine C_Machine)) found_6, .val (tL (ty_Machine C_Machine)) beside_24, .un, .un, .un, .un, .un, .un]) (cs2 := []) rfl rfl ?k1142
                  case k1142 =>
                   refine' sk_seq (sk_if1E (tk_not (tk_val (EV.k (ev_cb (cr_all rfl) bs.m_all bs.b_all (fun _ => u_all) (EV.lk (NE.l (ne_lc rfl (by exact sc.nd) ?lc169 ?lc168 ?lc170))))))) ?a1146 ?b1147)
                   case lc169 =>
                    exact blkOk_by (own := [("_law_x", 13), ("_law_y", 14), ("_law_z", 15)]) (N := ["_law_letters", "_law_one", "_law_other", "_law_further", "_law_first", "_law_second", "_law_third", "_law_kept", "_law_found", "_law_beside", "_law_again", "_law_some", "_law_low", "_law_x", "_law_y", "_law_z"]) (sc := defScope s_right) (by decide +kernel)
                   case lc168 =>
                    exact lc_k (own := [("_law_x", 13), ("_law_y", 14), ("_law_z", 15)]) (T := (tT (tsC tB (tsC tB (ts1 tB))))) (U := tB) (G := fun ρ x => (List.set (List.set (List.set ρ 13 (.val tB x.1)) 14 (.val tB x.2.1)) 15 (.val tB x.2.2))) (vs := [13, 14, 15]) (cs' := (fun _ : Unit => [])) (z0 := fun y => ()) (s1 := fun _ _ _ => ()) (s2 := fun _ _ _ _ => ()) (ie_list (ek_fp g_three.F (slC (slC sl1)) (hr.mono (by decide)) g_three.m g_three.k g_three.b (PAK.ak (pa_C (pk_var (i := 1) rfl) (pa_C (pk_var (i := 3) rfl) (pa_1 (pk_ixR (T := (ty_Machine C_Machine)) (PV.lk (PK.l (pk_var (i := 9) rfl))) pk_int))))))) (fun _ => rfl) (by decide) (fun _ _ _ _ _ => (gk_tup rfl (gs_C (gk_name (i := 13) (by exact sc.nd)) (gs_C (gk_name (i := 14) (by exact sc.nd)) (gs_1 (gk_name (i := 15) (by exact sc.nd))))) (tlC (tlC tl1)))) (fun _ _ _ _ _ _ _ => ts_0) (fun _ _ _ _ _ _ _ _ => (PK.ek (pk_cmp op_eq r2_eqB (pk_var (i := 15) rfl) (pk_and (pk_var (i := 13) rfl) (pk_one (pk_var (i := 14) rfl))))))
                   case lc170 =>
                    exact fun _ => rfl
                   case a1146 =>
                    intro y_28
                    exact sk_retF pk_bl
                   case b1147 =>
                    intro y_29
                    refine' sk_nilX rfl ?k1148
                    case k1148 =>
                     refine' sk_seq (sk_if1E (tk_not (tk_val (EV.k (ev_cb (cr_all rfl) bs.m_all bs.b_all (fun _ => u_all) (EV.lk (NE.l (ne_lc rfl (by exact sc.nd) ?lc172 ?lc171 ?lc173))))))) ?a1152 ?b1153)
                     case lc172 =>
                      exact blkOk_by (own := [("_law_x", 13), ("_law_y", 14), ("_law_z", 15)]) (N := ["_law_letters", "_law_one", "_law_other", "_law_further", "_law_first", "_law_second", "_law_third", "_law_kept", "_law_found", "_law_beside", "_law_again", "_law_some", "_law_low", "_law_x", "_law_y", "_law_z"]) (sc := defScope s_right) (by decide +kernel)
                     case lc171 =>
                      exact lc_k (own := [("_law_x", 13), ("_law_y", 14), ("_law_z", 15)]) (T := (tT (tsC tB (tsC tB (ts1 tB))))) (U := tB) (G := fun ρ x => (List.set (List.set (List.set ρ 13 (.val tB x.1)) 14 (.val tB x.2.1)) 15 (.val tB x.2.2))) (vs := [13, 14, 15]) (cs' := (fun _ : Unit => [])) (z0 := fun y => ()) (s1 := fun _ _ _ => ()) (s2 := fun _ _ _ _ => ()) (ie_list (ek_fp g_three.F (slC (slC sl1)) (hr.mono (by decide)) g_three.m g_three.k g_three.b (PAK.ak (pa_C (pk_var (i := 1) rfl) (pa_C (pk_var (i := 3) rfl) (pa_1 (pk_ixR (T := (ty_Machine C_Machine)) (PV.lk (PK.l (pk_var (i := 9) rfl))) pk_int))))))) (fun _ => rfl) (by decide) (fun _ _ _ _ _ => (gk_tup rfl (gs_C (gk_name (i := 13) (by exact sc.nd)) (gs_C (gk_name (i := 14) (by exact sc.nd)) (gs_1 (gk_name (i := 15) (by exact sc.nd))))) (tlC (tlC tl1)))) (fun _ _ _ _ _ _ _ => ts_0) (fun _ _ _ _ _ _ _ _ => (PK.ek (pk_cmp op_eq r2_eqB (pk_var (i := 15) rfl) (pk_or (pk_var (i := 13) rfl) (pk_one (pk_var (i := 14) rfl))))))
                     case lc173 =>
                      exact fun _ => rfl
                     case a1152 =>
                      intro y_32
                      exact sk_retF pk_bl
                     case b1153 =>
                      intro y_33
                      refine' sk_nilX rfl ?k1154
                      case k1154 =>
                       refine' sk_setE (i := 10) (by exact sc.nd) (NE.ek (ek_lst (al_C (ek_fx g_both.F (slC sl1) (hr.mono (by decide)) g_both.m g_both.k g_both.b (PAK.ak (pa_C (pk_var (i := 5) rfl) (pa_1 (pk_var (i := 4) rfl)))) (fun _ => (by first | exact fun _ h => kp0 h | exact fun _ h => h | exact fun _ h => List.mem_cons.mpr (Or.inl (List.mem_singleton.mp h))))) (fun _ => (al_C (ek_fx g_either.F (slC sl1) (hr.mono (by decide)) g_either.m g_either.k g_either.b (PAK.ak (pa_C (pk_var (i := 5) rfl) (pa_1 (pk_var (i := 4) rfl)))) (fun _ => (by first | exact fun _ h => kp0 h | exact fun _ h => h | exact fun _ h => List.mem_cons.mpr (Or.inl (List.mem_singleton.mp h))))) (fun _ => (al_C (ek_fp g_turned.F sl1 (hr.mono (by decide)) g_turned.m g_turned.k g_turned.b (ak_1 (ek_fp g_turned.F sl1 (hr.mono (by decide)) g_turned.m g_turned.k g_turned.b (ak_1 (ek_fp g_turned.F sl1 (hr.mono (by decide)) g_turned.m g_turned.k g_turned.b (PAK.ak (pa_1 (pk_var (i := 4) rfl)))))))) (fun _ => al_0)))))) (fun _ => by simp))) ?k1155
                       case k1155 =>
                        intro y_35 again_34
                        refine' sk_st (ρ2 := [.val (tL tS) a.1, .val (tT (tsC (tL (tL tI)) (ts1 (tL tI)))) a.2.1, .val (tT (tsC (tL (tL tI)) (ts1 (tL tI)))) a.2.2.1, .val (tT (tsC (tL (tL tI)) (ts1 (tL tI)))) a.2.2.2, .val (ty_Machine C_Machine) z_4.1, .val (ty_Machine C_Machine) z_4.2.1, .val (ty_Machine C_Machine) z_4.2.2, .val tSx kept_5, .val (tL (ty_Machine C_Machine)) found_6, .val (tL (ty_Machine C_Machine)) beside_24, .val (tL (ty_Machine C_Machine)) again_34, .un, .un, .un, .un, .un]) (cs2 := []) rfl rfl ?k1156
                        case k1156 =>
                         refine' sk_seq (sk_if1E (tk_neE hr.units (dL (dT (dsC (dU (dU (@dI K))) (ds1 (dU (@dI K)))))) (NE.ek (ne_lc rfl (by exact sc.nd) ?lc175 ?lc174 ?lc176)) ?lc180) ?a1161 ?b1162)
                         case lc175 =>
                          exact blkOk_by (own := [("_law_low", 12)]) (N := ["_law_letters", "_law_one", "_law_other", "_law_further", "_law_first", "_law_second", "_law_third", "_law_kept", "_law_found", "_law_beside", "_law_again", "_law_some", "_law_low", "_law_x", "_law_y", "_law_z"]) (sc := defScope s_right) (by decide +kernel)
                         case lc174 =>
                          exact lc_k (own := [("_law_low", 12)]) (T := (ty_Machine C_Machine)) (U := (tT (tsC (tU (tU tI)) (ts1 (tU tI))))) (G := fun ρ x => (List.set ρ 12 (.val (ty_Machine C_Machine) x))) (vs := [12]) (cs' := (fun _ : Unit => [])) (z0 := fun y => ()) (s1 := fun _ _ _ => ()) (s2 := fun _ _ _ _ => ()) (IK.ie (ik_list (pk_var (i := 10) rfl))) (fun _ => rfl) (by decide) (fun _ _ _ _ _ => (gk_name (i := 12) (by exact sc.nd))) (fun _ _ _ _ _ _ _ => ts_0) (fun _ _ _ _ _ _ _ _ => (PK.ek (pk_tup (pa_C (pk_fld cl_Machine.c cl_Machine.n_table (PK.ins (pk_var (i := 12) rfl))) (pa_1 (pk_fld cl_Machine.c cl_Machine.n_good (PK.ins (pk_var (i := 12) rfl))))) (fun F vs => (lenC len1) F vs _))))
                         case lc176 =>
                          exact fun _ => rfl
                         case lc180 =>
                          refine' fun _ => (NE.ek (ne_lc rfl (by exact sc.nd) ?lc178 ?lc177 ?lc179))
                          case lc178 =>
                           exact blkOk_by (own := [("_law_low", 12)]) (N := ["_law_letters", "_law_one", "_law_other", "_law_further", "_law_first", "_law_second", "_law_third", "_law_kept", "_law_found", "_law_beside", "_law_again", "_law_some", "_law_low", "_law_x", "_law_y", "_law_z"]) (sc := defScope s_right) (by decide +kernel)
                          case lc177 =>
                           exact lc_k (own := [("_law_low", 12)]) (T := (ty_Machine C_Machine)) (U := (tT (tsC (tU (tU tI)) (ts1 (tU tI))))) (G := fun ρ x => (List.set ρ 12 (.val (ty_Machine C_Machine) x))) (vs := [12]) (cs' := (fun _ : Unit => [])) (z0 := fun y => ()) (s1 := fun _ _ _ => ()) (s2 := fun _ _ _ _ => ()) (IK.ie (ik_list (pk_var (i := 8) rfl))) (fun _ => rfl) (by decide) (fun _ _ _ _ _ => (gk_name (i := 12) (by exact sc.nd))) (fun _ _ _ _ _ _ _ => ts_0) (fun _ _ _ _ _ _ _ _ => (PK.ek (pk_tup (pa_C (pk_fld cl_Machine.c cl_Machine.n_table (PK.ins (pk_var (i := 12) rfl))) (pa_1 (pk_fld cl_Machine.c cl_Machine.n_good (PK.ins (pk_var (i := 12) rfl))))) (fun F vs => (lenC len1) F vs _))))
                          case lc179 =>
                           exact fun _ => rfl
                         case a1161 =>
                          intro y_40
                          exact sk_retF pk_bl
                         case b1162 =>
                          intro y_41
                          refine' sk_nilX rfl ?k1166
                          case k1166 =>
                           refine' sk_setE (i := 10) (by exact sc.nd) (NE.ek (ek_lst (al_C (ek_fx g_both.F (slC sl1) (hr.mono (by decide)) g_both.m g_both.k g_both.b (PAK.ak (pa_C (pk_var (i := 4) rfl) (pa_1 (pk_var (i := 5) rfl)))) (fun _ => (by first | exact fun _ h => kp0 h | exact fun _ h => h | exact fun _ h => List.mem_cons.mpr (Or.inl (List.mem_singleton.mp h))))) (fun _ => (al_C (ek_fx g_either.F (slC sl1) (hr.mono (by decide)) g_either.m g_either.k g_either.b (PAK.ak (pa_C (pk_var (i := 4) rfl) (pa_1 (pk_var (i := 5) rfl)))) (fun _ => (by first | exact fun _ h => kp0 h | exact fun _ h => h | exact fun _ h => List.mem_cons.mpr (Or.inl (List.mem_singleton.mp h))))) (fun _ => (al_C (ek_fp g_turned.F sl1 (hr.mono (by decide)) g_turned.m g_turned.k g_turned.b (PAK.ak (pa_1 (pk_var (i := 4) rfl)))) (fun _ => al_0)))))) (fun _ => by simp))) ?k1167
                           case k1167 =>
                            intro y_43 again_42
                            refine' sk_st (ρ2 := [.val (tL tS) a.1, .val (tT (tsC (tL (tL tI)) (ts1 (tL tI)))) a.2.1, .val (tT (tsC (tL (tL tI)) (ts1 (tL tI)))) a.2.2.1, .val (tT (tsC (tL (tL tI)) (ts1 (tL tI)))) a.2.2.2, .val (ty_Machine C_Machine) z_4.1, .val (ty_Machine C_Machine) z_4.2.1, .val (ty_Machine C_Machine) z_4.2.2, .val tSx kept_5, .val (tL (ty_Machine C_Machine)) found_6, .val (tL (ty_Machine C_Machine)) beside_24, .val (tL (ty_Machine C_Machine)) again_42, .un, .un, .un, .un, .un]) (cs2 := []) rfl rfl ?k1168
                            case k1168 =>
                             refine' sk_seq (sk_if1E (tk_neE hr.units (dL (dT (dsC (dU (dU (@dI K))) (ds1 (dU (@dI K)))))) (NE.ek (ne_lc rfl (by exact sc.nd) ?lc182 ?lc181 ?lc183)) ?lc187) ?a1173 ?b1174)
                             case lc182 =>
                              exact blkOk_by (own := [("_law_low", 12)]) (N := ["_law_letters", "_law_one", "_law_other", "_law_further", "_law_first", "_law_second", "_law_third", "_law_kept", "_law_found", "_law_beside", "_law_again", "_law_some", "_law_low", "_law_x", "_law_y", "_law_z"]) (sc := defScope s_right) (by decide +kernel)
                             case lc181 =>
                              exact lc_k (own := [("_law_low", 12)]) (T := (ty_Machine C_Machine)) (U := (tT (tsC (tU (tU tI)) (ts1 (tU tI))))) (G := fun ρ x => (List.set ρ 12 (.val (ty_Machine C_Machine) x))) (vs := [12]) (cs' := (fun _ : Unit => [])) (z0 := fun y => ()) (s1 := fun _ _ _ => ()) (s2 := fun _ _ _ _ => ()) (IK.ie (ik_list (pk_var (i := 10) rfl))) (fun _ => rfl) (by decide) (fun _ _ _ _ _ => (gk_name (i := 12) (by exact sc.nd))) (fun _ _ _ _ _ _ _ => ts_0) (fun _ _ _ _ _ _ _ _ => (PK.ek (pk_tup (pa_C (pk_fld cl_Machine.c cl_Machine.n_table (PK.ins (pk_var (i := 12) rfl))) (pa_1 (pk_fld cl_Machine.c cl_Machine.n_good (PK.ins (pk_var (i := 12) rfl))))) (fun F vs => (lenC len1) F vs _))))
                             case lc183 =>
                              exact fun _ => rfl
                             case lc187 =>
                              refine' fun _ => (NE.ek (ne_lc rfl (by exact sc.nd) ?lc185 ?lc184 ?lc186))
                              case lc185 =>
                               exact blkOk_by (own := [("_law_low", 12)]) (N := ["_law_letters", "_law_one", "_law_other", "_law_further", "_law_first", "_law_second", "_law_third", "_law_kept", "_law_found", "_law_beside", "_law_again", "_law_some", "_law_low", "_law_x", "_law_y", "_law_z"]) (sc := defScope s_right) (by decide +kernel)
                              case lc184 =>
                               exact lc_k (own := [("_law_low", 12)]) (T := (ty_Machine C_Machine)) (U := (tT (tsC (tU (tU tI)) (ts1 (tU tI))))) (G := fun ρ x => (List.set ρ 12 (.val (ty_Machine C_Machine) x))) (vs := [12]) (cs' := (fun _ : Unit => [])) (z0 := fun y => ()) (s1 := fun _ _ _ => ()) (s2 := fun _ _ _ _ => ()) (IK.ie (ik_list (pk_var (i := 8) rfl))) (fun _ => rfl) (by decide) (fun _ _ _ _ _ => (gk_name (i := 12) (by exact sc.nd))) (fun _ _ _ _ _ _ _ => ts_0) (fun _ _ _ _ _ _ _ _ => (PK.ek (pk_tup (pa_C (pk_fld cl_Machine.c cl_Machine.n_table (PK.ins (pk_var (i := 12) rfl))) (pa_1 (pk_fld cl_Machine.c cl_Machine.n_good (PK.ins (pk_var (i := 12) rfl))))) (fun F vs => (lenC len1) F vs _))))
                              case lc186 =>
                               exact fun _ => rfl
                             case a1173 =>
                              intro y_48
                              exact sk_retF pk_bl
                             case b1174 =>
                              intro y_49
                              refine' sk_nilX rfl ?k1178
                              case k1178 =>
                               exact sk_retF (pk_cmp op_eq r2_eqR (PV.k (pv_cb (cr_repr hgd hr) bs.m_repr bs.b_repr (u_repr (dT (dsC (dU (@dS K)) (dsC (dU (dU (@dI K))) (dsC (dU (@dI K)) (dsC (dU (@dS K)) (dsC (dU (dU (@dI K))) (ds1 (dU (@dI K))))))))) tT_ref (Nat.le_of_ble_eq_true rfl)) (PK.v (pk_tup (pa_C (PK.uf (pk_fld cl_Machine.c cl_Machine.n_letters (PK.ins (pk_var (i := 4) rfl)))) (pa_C (pk_fld cl_Machine.c cl_Machine.n_table (PK.ins (pk_var (i := 4) rfl))) (pa_C (pk_fld cl_Machine.c cl_Machine.n_good (PK.ins (pk_var (i := 4) rfl))) (pa_C (PK.uf (pk_fld cl_Machine.c cl_Machine.n_letters (PK.ins (pk_var (i := 5) rfl)))) (pa_C (pk_fld cl_Machine.c cl_Machine.n_table (PK.ins (pk_var (i := 5) rfl))) (pa_1 (pk_fld cl_Machine.c cl_Machine.n_good (PK.ins (pk_var (i := 5) rfl))))))))) (fun F vs => (lenC (lenC (lenC (lenC (lenC len1))))) F vs _))))) (pk_var (i := 7) rfl))
  case vc =>
   intro h
   simp only [true_and, and_true, yes1, yes2]
   obtain ⟨ls, ⟨t1, g1⟩, ⟨t2, g2⟩, t3, g3⟩ := a
   obtain ⟨⟨hL, l6, H1, H2, H3, b1, b2, b3⟩, hφ⟩ := h
   have hL : LsOk ls := hL
   have l6 : ls.length ≤ 6 := l6
   have H1 : TG ls.length (t1, g1) := H1
   have H2 : TG ls.length (t2, g2) := H2
   have H3 : TG ls.length (t3, g3) := H3
   have b1 : t1.length ≤ 8 := b1
   have b2 : t2.length ≤ 8 := b2
   have b3 : t3.length ≤ 8 := b3
   have hφ : φ true := hφ _ rfl
   have M1 : MaOk (ls, t1, g1) := ⟨tab_of hL H1, H1.2.1⟩
   have M2 : MaOk (ls, t2, g2) := ⟨tab_of hL H2, H2.2.1⟩
   have M3 : MaOk (ls, t3, g3) := ⟨tab_of hL H3, H3.2.1⟩
   have s64 : ∀ {x y : Nat}, x ≤ 8 → y ≤ 8 → x * y ≤ 64 := fun hx hy => Nat.le_trans (Nat.mul_le_mul hx hy) (by decide)
   have F12 : FormOk ls (fun w => accM (ls, t1, g1) w ∧ accM (ls, t2, g2) w) (bothM ((ls, t1, g1), (ls, t2, g2))) := formL_ok (two_ex M1 M2 rfl (s64 b1 b2) And)
   have F21 : FormOk ls (fun w => accM (ls, t2, g2) w ∧ accM (ls, t1, g1) w) (bothM ((ls, t2, g2), (ls, t1, g1))) := formL_ok (two_ex M2 M1 rfl (s64 b2 b1) And)
   have F13 : FormOk ls (fun w => accM (ls, t1, g1) w ∧ accM (ls, t3, g3) w) (bothM ((ls, t1, g1), (ls, t3, g3))) := formL_ok (two_ex M1 M3 rfl (s64 b1 b3) And)
   have E12 : FormOk ls (fun w => accM (ls, t1, g1) w ∨ accM (ls, t2, g2) w) (eitherM ((ls, t1, g1), (ls, t2, g2))) := formL_ok (two_ex M1 M2 rfl (s64 b1 b2) Or)
   have E21 : FormOk ls (fun w => accM (ls, t2, g2) w ∨ accM (ls, t1, g1) w) (eitherM ((ls, t2, g2), (ls, t1, g1))) := formL_ok (two_ex M2 M1 rfl (s64 b2 b1) Or)
   have E13 : FormOk ls (fun w => accM (ls, t1, g1) w ∨ accM (ls, t3, g3) w) (eitherM ((ls, t1, g1), (ls, t3, g3))) := formL_ok (two_ex M1 M3 rfl (s64 b1 b3) Or)
   have gb12 : K11.g_both ((ls, t1, g1), (ls, t2, g2)) = .inl (bothM ((ls, t1, g1), (ls, t2, g2))) := if_pos rfl
   have gb13 : K11.g_both ((ls, t1, g1), (ls, t3, g3)) = .inl (bothM ((ls, t1, g1), (ls, t3, g3))) := if_pos rfl
   have gb21 : K11.g_both ((ls, t2, g2), (ls, t1, g1)) = .inl (bothM ((ls, t2, g2), (ls, t1, g1))) := if_pos rfl
   have ge12 : K11.g_either ((ls, t1, g1), (ls, t2, g2)) = .inl (eitherM ((ls, t1, g1), (ls, t2, g2))) := if_pos rfl
   have ge13 : K11.g_either ((ls, t1, g1), (ls, t3, g3)) = .inl (eitherM ((ls, t1, g1), (ls, t3, g3))) := if_pos rfl
   have ge21 : K11.g_either ((ls, t2, g2), (ls, t1, g1)) = .inl (eitherM ((ls, t2, g2), (ls, t1, g1))) := if_pos rfl
   have k6 := (sml_two M1.1 M1.2 (Nat.le_trans b1 (by decide)) M2.1 M2.2 (Nat.le_trans b2 (by decide))).fits (by decide)
   have k6 : ((dT (dsC (dU (dS (K := K))) (dsC (dU (dU (dI (K := K)))) (dsC (dU (dI (K := K))) (dsC (dU (dS (K := K))) (dsC (dU (dU (dI (K := K)))) (ds1 (dU (dI (K := K)))))))))).d (ls, t1, g1, ls, t2, g2)).showable = true ∧ ((dT (dsC (dU (dS (K := K))) (dsC (dU (dU (dI (K := K)))) (dsC (dU (dI (K := K))) (dsC (dU (dS (K := K))) (dsC (dU (dU (dI (K := K)))) (ds1 (dU (dI (K := K)))))))))).d (ls, t1, g1, ls, t2, g2)).hasDict = false ∧ ((dT (dsC (dU (dS (K := K))) (dsC (dU (dU (dI (K := K)))) (dsC (dU (dI (K := K))) (dsC (dU (dS (K := K))) (dsC (dU (dU (dI (K := K)))) (ds1 (dU (dI (K := K)))))))))).d (ls, t1, g1, ls, t2, g2)).shown.length ≤ sizeLine := k6
   have fm : ∀ {L : List Nat → Prop} {r : Ma}, FormOk ls L r → pre_formed (r, ls) ∧ (KN.f_formed (r, ls) = true → pre_is_least r) := fun {L r} h => ⟨⟨h.ok, h.lt⟩, fun _ => ⟨h.ok, by rw [h.lt]; exact h.ism⟩⟩
   have p3 : ∀ {L : List Nat → Prop} {r : Ma} {x y : Tg}, FormOk ls L r → TG ls.length x → TG ls.length y → pre_three (x, y, r) := fun {L r x y} h hx hy => ⟨⟨ls.length, hx, hy, h.ism.ok⟩, by have := h.ism.ne.2; show 0 < r.2.1.length; omega, h.ok.1.few⟩
   try dsimp only
   refine ⟨fun i acc _ => acc = ([((t1, g1) : Tg), (t2, g2), (t3, g3)].take i).map fun x => ((ls, x.1, x.2) : Ma), rfl, fun i acc _ x hx hI => ⟨fun _ => ⟨?_, fun r er => ?_⟩, fun e => (by cases e)⟩, fun acc _ hI => ?_⟩
   · have hm := get_mem hx
     simp only [List.mem_cons, List.not_mem_nil, or_false] at hm
     rcases hm with rfl | rfl | rfl
     · exact M1
     · exact M2
     · exact M3
   · dsimp only at hI ⊢
     rw [map_step _ hx, hI, er]
     rfl
   have hI : acc = [(ls, t1, g1), (ls, t2, g2), (ls, t3, g3)] := hI
   subst hI
   refine ⟨rfl, fun z ez => ?_⟩
   have ez : z = ((ls, t1, g1), (ls, t2, g2), (ls, t3, g3)) := ez
   subst ez
   refine ⟨k6, fun kept ekept => ⟨⟨M1, M2, s64 b1 b2⟩, fun rb hrb => ?_, fun r hr => ?_⟩⟩
   rotate_left
   · have hr := gb12.symm.trans hr
     cases hr
   have erb : rb = bothM ((ls, t1, g1), (ls, t2, g2)) := (Sum.inl.inj (gb12.symm.trans hrb)).symm
   subst erb
   refine ⟨⟨M1, M2, s64 b1 b2⟩, fun re hre => ?_, fun r hr => ?_⟩
   rotate_left
   · have hr := ge12.symm.trans hr
     cases hr
   have ere : re = eitherM ((ls, t1, g1), (ls, t2, g2)) := (Sum.inl.inj (ge12.symm.trans hre)).symm
   subst ere
   refine ⟨M1, fun rt hrt z2 ez2 => ?_⟩
   have FT : FormOk ls (fun w => ¬ accM (ls, t1, g1) w) rt := hrt.1
   refine ⟨fun _ acc _ => ∀ b ∈ acc, b = true, fun b hb => (by cases hb), fun i acc _ x hx hI => ⟨fun _ => ?_, fun e => (by cases e)⟩, fun acc _ hI => ⟨fun e => ?_, fun _ => ?_⟩⟩
   · have hm := get_mem hx
     rw [ez2] at hm
     simp only [List.mem_cons, List.not_mem_nil, or_false] at hm
     rcases hm with rfl | rfl | rfl
     · exact ⟨fm F12, snocT hI rfl⟩
     · exact ⟨fm E12, snocT hI rfl⟩
     · exact ⟨fm FT, snocT hI rfl⟩
   · rw [allT hI] at e
     cases e
   have q0 : pyIx z2 0 = bothM ((ls, t1, g1), (ls, t2, g2)) := by rw [ez2]; exact pyIx_get (i := 0) rfl
   have q1 : pyIx z2 1 = eitherM ((ls, t1, g1), (ls, t2, g2)) := by rw [ez2]; exact pyIx_get (i := 1) rfl
   have q2 : pyIx z2 2 = rt := by rw [ez2]; exact pyIx_get (i := 2) rfl
   have zl : z2.length = 3 := by rw [ez2]; rfl
   rw [q0, q1, q2]
   refine ⟨⟨by omega, by omega⟩, p3 F12 H1 H2, fun r hr => ⟨fun _ acc _ => ∀ b ∈ acc, b = true, fun b hb => (by cases hb), fun i acc _ x hx hI => ⟨fun _ => ⟨fun _ => trivial, snocT hI (el_and F12 (hr ls.length H1 H2 F12.ism.ok x (get_mem hx)))⟩, fun e => (by cases e)⟩, fun acc _ hI => ⟨fun e => (by rw [allT hI] at e; cases e), fun _ => ?_⟩⟩⟩
   clear hr hI
   refine ⟨⟨by omega, by omega⟩, p3 E12 H1 H2, fun r hr => ⟨fun _ acc _ => ∀ b ∈ acc, b = true, fun b hb => (by cases hb), fun i acc _ x hx hI => ⟨fun _ => ⟨fun _ => trivial, snocT hI (el_or E12 (hr ls.length H1 H2 E12.ism.ok x (get_mem hx)))⟩, fun e => (by cases e)⟩, fun acc _ hI => ⟨fun e => (by rw [allT hI] at e; cases e), fun _ => ?_⟩⟩⟩
   clear hr hI
   refine ⟨⟨by omega, by omega⟩, p3 FT H1 H2, fun r hr => ⟨fun _ acc _ => ∀ b ∈ acc, b = true, fun b hb => (by cases hb), fun i acc _ x hx hI => ⟨fun _ => snocT hI (el_not (t2 := t2) (g2 := g2) FT (hr ls.length H1 H2 FT.ism.ok x (get_mem hx))), fun e => (by cases e)⟩, fun acc _ hI => ⟨fun e => (by rw [allT hI] at e; cases e), fun _ => ?_⟩⟩⟩
   clear hr hI
   refine ⟨⟨M1, M3, s64 b1 b3⟩, fun rb hrb => ?_, fun r hr => ?_⟩
   rotate_left
   · have hr := gb13.symm.trans hr
     cases hr
   have erb : rb = bothM ((ls, t1, g1), (ls, t3, g3)) := (Sum.inl.inj (gb13.symm.trans hrb)).symm
   subst erb
   refine ⟨⟨M1, M3, s64 b1 b3⟩, fun re hre => ?_, fun r hr => ?_⟩
   rotate_left
   · have hr := ge13.symm.trans hr
     cases hr
   have ere : re = eitherM ((ls, t1, g1), (ls, t3, g3)) := (Sum.inl.inj (ge13.symm.trans hre)).symm
   subst ere
   intro z7 ez7
   have v0 : pyIx z7 0 = bothM ((ls, t1, g1), (ls, t3, g3)) := by rw [ez7]; exact pyIx_get (i := 0) rfl
   have v1 : pyIx z7 1 = eitherM ((ls, t1, g1), (ls, t3, g3)) := by rw [ez7]; exact pyIx_get (i := 1) rfl
   have zl7 : z7.length = 2 := by rw [ez7]; rfl
   rw [v0, v1]
   refine ⟨⟨by omega, by omega⟩, p3 F13 H1 H3, fun r hr => ⟨fun _ acc _ => ∀ b ∈ acc, b = true, fun b hb => (by cases hb), fun i acc _ x hx hI => ⟨fun _ => ⟨fun _ => trivial, snocT hI (el_and F13 (hr ls.length H1 H3 F13.ism.ok x (get_mem hx)))⟩, fun e => (by cases e)⟩, fun acc _ hI => ⟨fun e => (by rw [allT hI] at e; cases e), fun _ => ?_⟩⟩⟩
   clear hr hI
   refine ⟨⟨by omega, by omega⟩, p3 E13 H1 H3, fun r hr => ⟨fun _ acc _ => ∀ b ∈ acc, b = true, fun b hb => (by cases hb), fun i acc _ x hx hI => ⟨fun _ => ⟨fun _ => trivial, snocT hI (el_or E13 (hr ls.length H1 H3 E13.ism.ok x (get_mem hx)))⟩, fun e => (by cases e)⟩, fun acc _ hI => ⟨fun e => (by rw [allT hI] at e; cases e), fun _ => ?_⟩⟩⟩
   clear hr hI
   have low : ∀ (zz : List Ma), zz = z2 → ∀ ψ : List (List (List Int) × List Int) → List (List (List Int) × List Int) → Prop, (∀ acc, ψ acc acc) → ∃ I : Nat → List (List (List Int) × List Int) → Unit → Prop, I 0 [] () ∧ (∀ (i : Nat) (acc : List (List (List Int) × List Int)) (z : Unit) (x : Ma), zz[i]? = some x → I i acc z → (True → I (i + 1) (acc ++ [(x.2.1, x.2.2)]) ()) ∧ (true = false → I (i + 1) acc ())) ∧ ∀ (acc : List (List (List Int) × List Int)) (z_11 : Unit), I zz.length acc z_11 → ∃ I : Nat → List (List (List Int) × List Int) → Unit → Prop, I 0 [] () ∧ (∀ (i : Nat) (acc : List (List (List Int) × List Int)) (z : Unit) (x : Ma), z2[i]? = some x → I i acc z → (True → I (i + 1) (acc ++ [(x.2.1, x.2.2)]) ()) ∧ (true = false → I (i + 1) acc ())) ∧ ∀ (acc_1 : List (List (List Int) × List Int)) (z_12 : Unit), I z2.length acc_1 z_12 → ψ acc acc_1 := fun zz ezz ψ hψ => by
     subst ezz
     refine ⟨fun i acc _ => acc = (zz.take i).map fun x => (x.2.1, x.2.2), rfl, fun i acc _ x hx hI => ⟨fun _ => ?_, fun e => (by cases e)⟩, fun acc _ hI => ⟨fun i acc _ => acc = (zz.take i).map fun x => (x.2.1, x.2.2), rfl, fun i acc _ x hx hI => ⟨fun _ => ?_, fun e => (by cases e)⟩, fun acc1 _ hI1 => ?_⟩⟩
     · dsimp only at hI ⊢; rw [map_step _ hx, hI]
     · dsimp only at hI ⊢; rw [map_step _ hx, hI]
     · dsimp only at hI hI1
       rw [hI, hI1]
       exact hψ _
   refine ⟨⟨M2, M1, s64 b2 b1⟩, fun rb hrb => ?_, fun r hr => ?_⟩
   rotate_left
   · have hr := gb21.symm.trans hr
     cases hr
   have erb : rb = bothM ((ls, t1, g1), (ls, t2, g2)) := (Sum.inl.inj (gb21.symm.trans hrb)).symm.trans (F21.uniq F12 fun w _ => And.comm)
   subst erb
   refine ⟨⟨M2, M1, s64 b2 b1⟩, fun re hre => ?_, fun r hr => ?_⟩
   rotate_left
   · have hr := ge21.symm.trans hr
     cases hr
   have ere : re = eitherM ((ls, t1, g1), (ls, t2, g2)) := (Sum.inl.inj (ge21.symm.trans hre)).symm.trans (E21.uniq E12 fun w _ => Or.comm)
   subst ere
   refine ⟨M1, fun r5 h5 => ⟨h5.1.ok, fun r6 h6 => ⟨h6.1.ok, fun r7 h7 z10 ez10 => ?_⟩⟩⟩
   have G5 : FormOk ls (fun w => ¬ accM (ls, t1, g1) w) r5 := h5.1
   have G6 : FormOk ls (fun w => ¬ accM r5 w) r6 := by have := h6.1; rw [G5.lt] at this; exact this
   have G7 : FormOk ls (fun w => ¬ accM r6 w) r7 := by have := h7.1; rw [G6.lt] at this; exact this
   have e7 : r7 = rt := G7.uniq FT fun w hw => by rw [G6.acc w hw, G5.acc w hw]; exact ⟨fun c d => c fun e => e d, fun c d => d c⟩
   refine low z10 (by rw [ez10, e7, ez2]) (fun acc acc1 => ((!decide (acc = acc1)) = true → φ false) ∧ ((!decide (acc = acc1)) = false → _)) fun acc => ⟨fun e => (by rw [decide_eq_true rfl] at e; cases e), fun _ => ?_⟩
   refine ⟨⟨M1, M2, s64 b1 b2⟩, fun rb hrb => ?_, fun r hr => ?_⟩
   rotate_left
   · have hr := gb12.symm.trans hr
     cases hr
   have erb : rb = bothM ((ls, t1, g1), (ls, t2, g2)) := (Sum.inl.inj (gb12.symm.trans hrb)).symm
   subst erb
   refine ⟨⟨M1, M2, s64 b1 b2⟩, fun re hre => ?_, fun r hr => ?_⟩
   rotate_left
   · have hr := ge12.symm.trans hr
     cases hr
   have ere : re = eitherM ((ls, t1, g1), (ls, t2, g2)) := (Sum.inl.inj (ge12.symm.trans hre)).symm
   subst ere
   refine ⟨M1, fun r9 h9 z13 ez13 => ?_⟩
   have e9 : r9 = rt := (show FormOk ls (fun w => ¬ accM (ls, t1, g1) w) r9 from h9.1).uniq FT fun w _ => Iff.rfl
   refine low z13 (by rw [ez13, e9, ez2]) (fun acc acc1 => ((!decide (acc = acc1)) = true → φ false) ∧ ((!decide (acc = acc1)) = false → _)) fun acc => ⟨fun e => (by rw [decide_eq_true rfl] at e; cases e), fun _ => ⟨k6, ?_⟩⟩
   rw [decide_eq_true ekept.symm]
   exact hφ
abbrev s_long_turned : Stmt := topS 31
theorem sc_long_turned : FnScope ["_law_flow_here", "_law_letters", "_law_many", "_law_step", "_law_table", "_law_one", "_law_low", "_law_state", "_law_k", "_law_x", "_law_y", "_law_z"] ["_law_flow_here", "_law_letters"] (defScope s_long_turned) := ⟨rfl, rfl, rfl, by decide +kernel, rfl, by decide +kernel, by decide +kernel⟩
def c_long_turned (K : PySem.W.Frag) := Con.o1 (K := K) tI (fun x : (List Str) => [.val (tL tS) x]) tB pre_long_turned post_long_turned
theorem ok_long_turned (bs : Bs mg) {C_Machine : Addr} (cl_Machine : Cl_Machine K C_Machine) {f_Machine_init : Addr} {fd_Machine_init : FuncData} (g_Machine_init : MkC P w K mg base C_Machine "Machine" 2 ["self", "letters", "table", "good"] (c_Machine_init K C_Machine).sp f_Machine_init fd_Machine_init) {f_draw : Addr} {fd_draw : FuncData} (g_draw : Cal P w K mg base "_law_draw" 1 ["_law_flow_here", "_law_many"] (c_draw K).sp f_draw fd_draw) {f_formed : Addr} {fd_formed : FuncData} (g_formed : CalG P w K mg base "_law_formed" 1 ["_law_machine_here", "_law_letters"] (c_formed K C_Machine).sp f_formed fd_formed) {f_is_least : Addr} {fd_is_least : FuncData} (g_is_least : Cal P w K mg base "_law_is_least" 2 ["_law_machine_here"] (c_is_least K C_Machine).sp f_is_least fd_is_least) {f_three : Addr} {fd_three : FuncData} (g_three : Cal P w K mg base "_law_three" 1 ["_law_one", "_law_other", "_law_low"] (c_three K C_Machine).sp f_three fd_three) {f_turned : Addr} {fd_turned : FuncData} (g_turned : Cal P w K mg base "turned" 5 ["machine"] (c_turned K C_Machine).sp f_turned fd_turned) {f : Addr} {fd : FuncData} (F : Fun K "_law_long_turned" "_law_long_turned" s_long_turned f fd) : FnG P w K mg base 7 f fd ["_law_flow_here", "_law_letters"] (c_long_turned K).sp := by
  refine fn_conG (c_long_turned K) F sc_long_turned (fun _ => rfl) ?_
  intro cdv Ar outer s H E F0 a φ ε hgd hr hp
  have hu := hu_of hr
  have sc := sc_long_turned
  refine' SK.vc ?hh ?vc
  case hh =>
   refine' sk_setG (gk_tup rfl (gs_C (gk_name (i := 2) (by exact sc.nd)) (gs_1 (gk_name (i := 3) (by exact sc.nd)))) (tlC tl1)) (ek_tup (ak_C (ek_op op_add r2_I0 (PK.ek pk_int) (fun _ => (ek_o1 0 g_draw.F sl1 (hr.mono (by decide)) g_draw.m g_draw.k g_draw.b (pk_var (i := 0) rfl) (PAK.ak (pa_1 pk_int)) (fun _ => rfl)))) (fun _ => (ak_1 (ek_o1 0 g_draw.F sl1 (hr.mono (by decide)) g_draw.m g_draw.k g_draw.b (pk_var (i := 0) rfl) (PAK.ak (pa_1 (PV.k (pv_cb cr_lenQ bs.m_len bs.b_len u_len (PV.q (PK.l (pk_var (i := 1) rfl))))))) (fun _ => rfl))))) (lenC len1)) ?k1205
   case k1205 =>
    intro y_1 z_2
    refine' sk_name 0 rfl ?k1206
    case k1206 =>
     intro w_3
     refine' sk_st (ρ2 := [.val tR a.1, .val (tL tS) a.2.2, .val tI z_2.1, .val tI z_2.2, .un, .un, .un, .un, .un, .un, .un, .un]) (cs2 := [⟨a.1, cL tI w_3⟩]) rfl rfl ?k1207
     case k1207 =>
      refine' sk_st (ρ2 := [.val tR a.1, .val (tL tS) a.2.2, .val tI z_2.1, .val tI z_2.2, .un, .un, .un, .un, .un, .un, .un, .un]) (cs2 := [⟨a.1, cL tI w_3⟩]) rfl rfl ?k1208
      case k1208 =>
       refine' sk_setLc (i := 4) rfl (by exact sc.nd) (blkOk_by (own := [("_law_state", 7)]) (N := ["_law_flow_here", "_law_letters", "_law_many", "_law_step", "_law_table", "_law_one", "_law_low", "_law_state", "_law_k", "_law_x", "_law_y", "_law_z"]) (sc := defScope s_long_turned) (by decide +kernel)) ?lc191 ?k1210
       case lc191 =>
        refine' lc_k (own := [("_law_state", 7)]) (T := tI) (U := (tL tI)) (G := fun ρ x => (List.set ρ 7 (.val tI x))) (vs := [7]) (cs' := (fun _ : Unit => [⟨a.1, cL tI w_3⟩])) (z0 := fun y => ()) (s1 := fun _ _ _ => ()) (s2 := fun _ _ _ _ => ()) (IK.ie (ik_range1 bs.m_range (pk_var (i := 2) rfl))) (fun _ => rfl) (by decide) (fun _ _ _ _ _ => (gk_name (i := 7) (by exact sc.nd))) (fun _ _ _ _ _ _ _ => ts_0) (fun _ _ _ _ _ _ _ _ => (NE.ek (ne_lc rfl (by exact sc.nd) ?lc189 ?lc188 ?lc190)))
        case lc189 =>
         exact blkIn_by (own := [("_law_k", 8)]) (N := ["_law_flow_here", "_law_letters", "_law_many", "_law_step", "_law_table", "_law_one", "_law_low", "_law_state", "_law_k", "_law_x", "_law_y", "_law_z"]) (sc := defScope s_long_turned) rfl rfl (by decide +kernel)
        case lc188 =>
         exact lc_k (own := [("_law_k", 8)]) (T := tI) (U := tI) (G := fun ρ x => (List.set ρ 8 (.val tI x))) (vs := [8]) (cs' := (fun _ : Unit => [⟨a.1, cL tI w_3⟩])) (z0 := fun y => ()) (s1 := fun _ _ _ => ()) (s2 := fun _ _ _ _ => ()) (IK.ie (ik_range1 bs.m_range (PV.k (pv_cb cr_lenQ bs.m_len bs.b_len u_len (PV.q (PK.l (pk_var (i := 1) rfl))))))) (fun _ => rfl) (by decide) (fun _ _ _ _ _ => (gk_name (i := 8) (by exact sc.nd))) (fun _ _ _ _ _ _ _ => ts_0) (fun _ _ _ _ _ _ _ _ => (PK.ek (pk_ixR (T := tI) (PV.lk (NK.l (nk_lst (pl_C (pk_var (i := 7) rfl) (pl_C (pk_op op_mod r2_I (pk_op op_add r2_I0 (pk_var (i := 7) rfl) pk_int) (pk_var (i := 2) rfl)) pl_0)) (Nat.le_of_ble_eq_true rfl)))) (PV.k (pv_ct call_int1 bs.m_int bs.b_int u_intB (PK.v (pk_cmp op_eq r2_eqI (pk_var (i := 8) rfl) (pk_var (i := 3) rfl))))))))
        case lc190 =>
         exact fun _ => rfl
       case k1210 =>
        intro y_8 table_9
        refine' sk_st (ρ2 := [.val tR a.1, .val (tL tS) a.2.2, .val tI z_2.1, .val tI z_2.2, .val (tL (tL tI)) table_9, .un, .un, .un, .un, .un, .un, .un]) (cs2 := [⟨a.1, cL tI w_3⟩]) rfl rfl ?k1214
        case k1214 =>
         refine' sk_setE (i := 5) (by exact sc.nd) (ek_tup (ak_C (PK.ek (pk_var (i := 4) rfl)) (fun _ => (ak_1 (NE.ek (ne_lc rfl (by exact sc.nd) ?lc193 ?lc192 ?lc194))))) (lenC len1)) ?k1218
         case lc193 =>
          exact blkOk_by (own := [("_law_state", 7)]) (N := ["_law_flow_here", "_law_letters", "_law_many", "_law_step", "_law_table", "_law_one", "_law_low", "_law_state", "_law_k", "_law_x", "_law_y", "_law_z"]) (sc := defScope s_long_turned) (by decide +kernel)
         case lc192 =>
          exact lc_k (own := [("_law_state", 7)]) (T := tI) (U := tI) (G := fun ρ x => (List.set ρ 7 (.val tI x))) (vs := [7]) (cs' := (fun c_10 : List Int => [⟨a.1, cL tI c_10⟩])) (z0 := fun y => _) (IK.ie (ik_range1 bs.m_range (pk_var (i := 2) rfl))) (fun _ => rfl) (by decide) (fun _ _ _ _ _ => (gk_name (i := 7) (by exact sc.nd))) (fun _ _ _ _ _ _ _ => (ts_1 (tk_cmp op_eq r2_eqI (ek_o1 0 g_draw.F sl1 (hr.mono (by decide)) g_draw.m g_draw.k g_draw.b (pk_var (i := 0) rfl) (PAK.ak (pa_1 pk_int)) (fun _ => rfl)) (fun _ => (PK.ek pk_int))))) (fun _ _ _ _ _ _ _ _ => (PK.ek (pk_var (i := 7) rfl)))
         case lc194 =>
          exact fun _ => rfl
         case k1218 =>
          intro y_13 one_12
          refine' sk_name 0 rfl ?k1219
          case k1219 =>
           intro w_14
           refine' sk_st (ρ2 := [.val tR a.1, .val (tL tS) a.2.2, .val tI z_2.1, .val tI z_2.2, .val (tL (tL tI)) table_9, .val (tT (tsC (tL (tL tI)) (ts1 (tL tI)))) one_12, .un, .un, .un, .un, .un, .un]) (cs2 := [⟨a.1, cL tI w_14⟩]) rfl rfl ?k1220
           case k1220 =>
            refine' sk_st (ρ2 := [.val tR a.1, .val (tL tS) a.2.2, .val tI z_2.1, .val tI z_2.2, .val (tL (tL tI)) table_9, .val (tT (tsC (tL (tL tI)) (ts1 (tL tI)))) one_12, .un, .un, .un, .un, .un, .un]) (cs2 := [⟨a.1, cL tI w_14⟩]) rfl rfl ?k1221
            case k1221 =>
             refine' sk_setE (i := 6) (by exact sc.nd) (ek_fp g_turned.F sl1 (hr.mono (by decide)) g_turned.m g_turned.k g_turned.b (ak_1 (ek_makeS g_Machine_init (hr.mono (by decide)) (slC (slC sl1)) (PAK.ak (pa_C (pk_var (i := 1) rfl) (pa_C (pk_ixT Nth.here (pk_var (i := 5) rfl)) (pa_1 (pk_ixT (Nth.next Nth.one) (pk_var (i := 5) rfl))))))))) ?k1222
             case k1222 =>
              intro y_16 low_15
              refine' sk_st (ρ2 := [.val tR a.1, .val (tL tS) a.2.2, .val tI z_2.1, .val tI z_2.2, .val (tL (tL tI)) table_9, .val (tT (tsC (tL (tL tI)) (ts1 (tL tI)))) one_12, .val (ty_Machine C_Machine) low_15, .un, .un, .un, .un, .un]) (cs2 := [⟨a.1, cL tI w_14⟩]) rfl rfl ?k1223
              case k1223 =>
               refine' sk_seq (sk_if1 (PWK.pt (pw_or' (pt_not' (pt_val' (pk_fnG g_formed (slC sl1) (hr.mono (by decide)) hgd (pa_C (pk_var (i := 6) rfl) (pa_1 (pk_var (i := 1) rfl)))))) (pw_or1' (pt_not' (pt_val' (pk_fn g_is_least.F sl1 (hr.mono (by decide)) g_is_least.m g_is_least.k g_is_least.b (pa_1 (pk_var (i := 6) rfl)))))))) ?a1224 ?b1225)
               case a1224 =>
                exact sk_retO pk_bl rfl
               case b1225 =>
                refine' sk_nilX rfl ?k1226
                case k1226 =>
                 refine' sk_retOE (EV.k (ev_cb (cr_all rfl) bs.m_all bs.b_all (fun _ => u_all) (EV.lk (NE.l (ne_lc rfl (by exact sc.nd) ?lc196 ?lc195 ?lc197))))) ?lc198
                 case lc196 =>
                  exact blkOk_by (own := [("_law_x", 9), ("_law_y", 10), ("_law_z", 11)]) (N := ["_law_flow_here", "_law_letters", "_law_many", "_law_step", "_law_table", "_law_one", "_law_low", "_law_state", "_law_k", "_law_x", "_law_y", "_law_z"]) (sc := defScope s_long_turned) (by decide +kernel)
                 case lc195 =>
                  exact lc_k (own := [("_law_x", 9), ("_law_y", 10), ("_law_z", 11)]) (T := (tT (tsC tB (tsC tB (ts1 tB))))) (U := tB) (G := fun ρ x => (List.set (List.set (List.set ρ 9 (.val tB x.1)) 10 (.val tB x.2.1)) 11 (.val tB x.2.2))) (vs := [9, 10, 11]) (cs' := (fun _ : Unit => [⟨a.1, cL tI w_14⟩])) (z0 := fun y => ()) (s1 := fun _ _ _ => ()) (s2 := fun _ _ _ _ => ()) (ie_list (ek_fp g_three.F (slC (slC sl1)) (hr.mono (by decide)) g_three.m g_three.k g_three.b (PAK.ak (pa_C (pk_var (i := 5) rfl) (pa_C (pk_var (i := 5) rfl) (pa_1 (pk_var (i := 6) rfl))))))) (fun _ => rfl) (by decide) (fun _ _ _ _ _ => (gk_tup rfl (gs_C (gk_name (i := 9) (by exact sc.nd)) (gs_C (gk_name (i := 10) (by exact sc.nd)) (gs_1 (gk_name (i := 11) (by exact sc.nd))))) (tlC (tlC tl1)))) (fun _ _ _ _ _ _ _ => ts_0) (fun _ _ _ _ _ _ _ _ => (PK.ek (pk_cmp op_ne r2_neB (pk_var (i := 11) rfl) (pk_var (i := 9) rfl))))
                 case lc197 =>
                  exact fun _ => rfl
                 case lc198 =>
                  exact fun _ => rfl
  case vc =>
   intro h
   simp only [true_and, and_true, yes1, yes2]
   obtain ⟨p, fl, ls⟩ := a
   obtain ⟨⟨hf, hL, l6⟩, hφ⟩ := h
   have hf : Fl fl := hf
   have hL : LsOk ls := hL
   have l6 : ls.length ≤ 6 := l6
   have l1 : 0 < ls.length := List.length_pos_iff.mpr hL.ne
   have hφ : ∀ w, Fl w → φ (true, w) := fun w hw => hφ true w ⟨hw, rfl⟩
   try dsimp only
   refine ⟨⟨hf, by decide, by decide⟩, fun r w ⟨r0, r1, f1⟩ => ⟨⟨f1, by omega, by omega⟩, fun q w1 ⟨q0, q1, f2⟩ z ez w2 ew2 => ?_⟩⟩
   have z1 : z.1 = 9 + r := by rw [ez]
   have zn : 9 ≤ z.1 ∧ z.1 ≤ 24 := by omega
   refine ⟨⟨by omega, by omega⟩, fun i acc _ => acc.length = i ∧ ∀ s ∈ acc, s.length = ls.length ∧ ∀ g ∈ s, 0 ≤ g ∧ g < z.1, ⟨rfl, fun s hs => (by cases hs)⟩, fun i acc _ x hx ⟨i1, i2⟩ => ⟨fun _ => ⟨⟨by omega, by omega⟩, fun j acc1 _ => acc1.length = j ∧ ∀ g ∈ acc1, 0 ≤ g ∧ g < z.1, ⟨rfl, fun g hg => (by cases hg)⟩, fun j acc1 _ y hy ⟨j1, j2⟩ => ⟨fun _ => ?_, fun e => (by cases e)⟩, fun acc1 _ ⟨j1, j2⟩ => ⟨by rw [List.length_append, i1]; rfl, fun s hs => ?_⟩⟩, fun e => (by cases e)⟩, fun acc _ ⟨i1, i2⟩ tab etab => ?_⟩
   · obtain ⟨ex, hxi⟩ := rng_get hx
     have m0 := Int.emod_nonneg (x + 1) (b := z.1) (by omega)
     have m1 := Int.emod_lt_of_pos (x + 1) (b := z.1) (by omega)
     by_cases c : y = z.2
     · rw [decide_eq_true c, if_pos rfl]
       refine ⟨⟨by omega, ⟨by show -2 ≤ (1 : Int); decide, by show (1 : Int) < 2; decide⟩⟩, by rw [List.length_append, j1]; rfl, fun g hg => ?_⟩
       rcases List.mem_append.mp hg with h | h
       · exact j2 g h
       · rw [List.mem_singleton.mp h]
         exact ⟨m0, m1⟩
     · rw [decide_eq_false c, if_neg (by decide)]
       refine ⟨⟨by omega, ⟨by show -2 ≤ (0 : Int); decide, by show (0 : Int) < 2; decide⟩⟩, by rw [List.length_append, j1]; rfl, fun g hg => ?_⟩
       rcases List.mem_append.mp hg with h | h
       · exact j2 g h
       · rw [List.mem_singleton.mp h]
         show 0 ≤ x ∧ x < z.1
         omega
   · rcases List.mem_append.mp hs with h | h
     · exact i2 s h
     · rw [List.mem_singleton.mp h]
       exact ⟨by rw [j1, rng_length]; omega, j2⟩
   have tl : (tab.length : Int) = z.1 := by rw [etab, i1, rng_length]; omega
   have hr : ∀ s ∈ tab, s.length = ls.length ∧ ∀ g ∈ s, 0 ≤ g ∧ g < z.1 := by rw [etab]; exact i2
   refine ⟨⟨by omega, by omega⟩, fun i acc w => Fl w ∧ acc.Pairwise (· < ·) ∧ ∀ g ∈ acc, 0 ≤ g ∧ g < (i : Int), ⟨by rw [ew2]; exact f2, .nil, fun g hg => (by cases hg)⟩, fun i acc w3 x hx ⟨j0, j1, j2⟩ => ⟨⟨j0, by decide, by decide⟩, fun r2 w4 ⟨_, _, f4⟩ => ⟨fun _ => ⟨f4, ?_, fun g hg => ?_⟩, fun _ => ⟨f4, j1, fun g hg => ?_⟩⟩⟩, fun acc w3 ⟨j0, j1, j2⟩ one eone w5 ew5 => ?_⟩
   · obtain ⟨ex, hxi⟩ := rng_get hx
     refine List.pairwise_append.mpr ⟨j1, List.pairwise_singleton _ _, fun a ha b hb => ?_⟩
     rw [List.mem_singleton.mp hb]
     have := (j2 a ha).2
     omega
   · obtain ⟨ex, hxi⟩ := rng_get hx
     rcases List.mem_append.mp hg with c | c
     · have := j2 g c
       omega
     · rw [List.mem_singleton.mp c]
       omega
   · have := j2 g hg
     omega
   rw [rng_length] at j2
   have o1 : one.1 = tab := by rw [eone]
   have o2 : one.2 = acc := by rw [eone]
   have f5 : Fl w5 := by rw [ew5]; exact j0
   have tg : TG ls.length (tab, acc) := ⟨⟨fun s hs => (hr s hs).1, fun s hs g hg => by
     have := (hr s hs).2 g hg
     exact ⟨this.1, by rw [tl]; exact this.2⟩⟩, good_of j1 fun g hg => by
     have := j2 g hg
     show 0 ≤ g ∧ g < (tab.length : Int)
     omega, by show 1 ≤ tab.length; omega, by show tab.length ≤ 24; omega⟩
   have hM : MaOk (ls, tab, acc) := ⟨tab_of hL tg, tg.2.1⟩
   rw [o1, o2]
   refine ⟨hM, fun m em => ?_⟩
   have em : m = (ls, tab, acc) := em
   subst em
   refine ⟨hM, fun low0 ⟨hF, hlen⟩ low elow => ?_⟩
   subst elow
   have hF : FormOk ls (fun w => ¬ accM (ls, tab, acc) w) low := hF
   have hlen : low.2.1.length ≤ tab.length := hlen
   have ll : low.1.length = ls.length := by rw [hF.lt]
   refine ⟨⟨⟨hF.ok, hF.lt⟩, fun _ => ⟨hF.ok, by rw [ll]; exact hF.ism⟩⟩, fun e => (by cases e), fun _ => ⟨⟨⟨ls.length, ?_, ?_, ?_⟩, ?_, ?_⟩, fun r3 hr3 => ?_⟩⟩
   · show TG ls.length one
     rw [eone]; exact tg
   · show TG ls.length one
     rw [eone]; exact tg
   · exact hF.ism.ok
   · have := hF.ism.ne.2
     show 0 < low.2.1.length
     omega
   · exact hF.ok.1.few
   have h3 := hr3 ls.length (by show TG ls.length one; rw [eone]; exact tg) (by show TG ls.length one; rw [eone]; exact tg) hF.ism.ok
   refine ⟨fun _ acc3 _ => ∀ b ∈ acc3, b = true, fun b hb => (by cases hb), fun i acc3 _ x hx hI => ⟨fun _ => snocT hI ?_, fun e => (by cases e)⟩, fun acc3 _ hI => ?_⟩
   · have hx3 := h3 x (get_mem hx)
     dsimp only at hx3
     rw [o1, o2] at hx3
     exact el_not (t2 := tab) (g2 := acc) hF hx3
   · rw [allT hI]
     exact hφ _ f5
abbrev s_law : Stmt := topS 32
theorem sc_law : FnScope ["_law_script", "_law_k", "_law_flow_here", "_law_most", "_law_letters", "_law_one", "_law_other", "_law_further", "_law_strange_here", "_law_first", "_law_second", "_law_asked", "_law_words", "_law_turn", "_law_letter"] ["_law_script"] (defScope s_law) := ⟨rfl, rfl, rfl, by decide +kernel, rfl, by decide +kernel, by decide +kernel⟩
def c_law (K : PySem.W.Frag) := Con.fn (K := K) (fun x : (List Int) => [.val (tLK tI) x]) tB pre_law f_law
theorem ok_law (bs : Bs mg) {C_Machine : Addr} (cl_Machine : Cl_Machine K C_Machine) {f_both : Addr} {fd_both : FuncData} (g_both : Cal P w K mg base "both" 5 ["one", "other"] (c_both K C_Machine xa).sp f_both fd_both) {f_either : Addr} {fd_either : FuncData} (g_either : Cal P w K mg base "either" 5 ["one", "other"] (c_either K C_Machine xa).sp f_either fd_either) {f_Machine_init : Addr} {fd_Machine_init : FuncData} (g_Machine_init : MkC P w K mg base C_Machine "Machine" 2 ["self", "letters", "table", "good"] (c_Machine_init K C_Machine).sp f_Machine_init fd_Machine_init) {f_draw : Addr} {fd_draw : FuncData} (g_draw : Cal P w K mg base "_law_draw" 1 ["_law_flow_here", "_law_many"] (c_draw K).sp f_draw fd_draw) {f_flow : Addr} {fd_flow : FuncData} (g_flow : Cal P w K mg base "_law_flow" 2 ["_law_script", "_law_k"] (c_flow K).sp f_flow fd_flow) {f_long_turned : Addr} {fd_long_turned : FuncData} (g_long_turned : CalG P w K mg base "_law_long_turned" 7 ["_law_flow_here", "_law_letters"] (c_long_turned K).sp f_long_turned fd_long_turned) {f_machine : Addr} {fd_machine : FuncData} (g_machine : Cal P w K mg base "_law_machine" 2 ["_law_flow_here", "_law_many", "_law_letters"] (c_machine K).sp f_machine fd_machine) {f_names : Addr} {fd_names : FuncData} (g_names : Cal P w K mg base "_law_names" 2 ["_law_flow_here", "_law_many"] (c_names K).sp f_names fd_names) {f_right : Addr} {fd_right : FuncData} (g_right : CalG P w K mg base "_law_right" 7 ["_law_letters", "_law_one", "_law_other", "_law_further"] (c_right K).sp f_right fd_right) {f_strange : Addr} {fd_strange : FuncData} (g_strange : Cal P w K mg base "_law_strange" 2 ["_law_flow_here", "_law_letters"] (c_strange K).sp f_strange fd_strange) {f_word : Addr} {fd_word : FuncData} (g_word : Cal P w K mg base "_law_word" 6 ["_law_asked", "_law_one", "_law_other"] (c_word K C_Machine f_both f_either).sp f_word fd_word) {f : Addr} {fd : FuncData} (F : Fun K "law" "law" s_law f fd) : FnG P w K mg base 8 f fd ["_law_script"] (c_law K).sp := by
  refine fn_conG (c_law K) F sc_law (fun _ => rfl) ?_
  intro cdv Ar outer s H E F0 a φ ε hgd hr hp
  have hu := hu_of hr
  have sc := sc_law
  refine' SK.vc ?hh ?vc
  case hh =>
   refine' sk_for (fun _ : Unit => [.val (tLK tI) a, .un, .un, .un, .un, .un, .un, .un, .un, .un, .un, .un, .un, .un, .un]) (fun _ : Unit => []) () hp rfl (ik_range1 bs.m_range (pk_cb (call_max2 rfl) bs.m_max bs.b_max rc_max2 (pa_C pk_int (pa_1 (pk_cb (call_min2 rfl) bs.m_min bs.b_min rc_min2 (pa_C pk_int (pa_1 (PV.k (pv_cb cr_lenQ bs.m_len bs.b_len u_len (PV.kq (PK.lk (pk_var (i := 0) rfl)))))))))))) (gk_name (i := 1) (by exact sc.nd)) (.same (.same (.same (.same (.same (.same (.same (.same (.same (.same (.same (.same (.same (.same (.same .nil))))))))))))))) rfl ?b1298 ?k1299
   case b1298 =>
    intro fl_5 hs_4 N_3 z_1 x_2
    refine' sk_st (ρ2 := [.val (tLK tI) a, .val tI x_2, .un, .un, .un, .un, .un, .un, .un, .un, .un, .un, .un, .un, .un]) (cs2 := []) rfl rfl ?k1300
    case k1300 =>
     refine' sk_setMk (i := 2) (by exact sc.nd) (ek_mk1 g_flow.F (slC sl1) (hr.mono (by decide)) g_flow.m g_flow.k g_flow.b (PAK.ak (pa_C (pk_var (i := 0) rfl) (pa_1 (pk_var (i := 1) rfl))))) ?k1301
     case k1301 =>
      intro y_6 l_7 flow_here_8
      refine' sk_st (ρ2 := [.val (tLK tI) a, .val tI x_2, .val tR l_7, .un, .un, .un, .un, .un, .un, .un, .un, .un, .un, .un, .un]) (cs2 := [⟨l_7, cL tI flow_here_8⟩]) rfl rfl ?k1302
      case k1302 =>
       refine' sk_setE (i := 3) (by exact sc.nd) (ek_ixL (PK.ek (NK.pk (nk_lst (pl_C pk_int (pl_C pk_int (pl_C pk_int (pl_C pk_int (pl_C pk_int (pl_C pk_int pl_0)))))) (Nat.le_of_ble_eq_true rfl)))) (fun _ => (ek_o1 0 g_draw.F sl1 (hr.mono (by decide)) g_draw.m g_draw.k g_draw.b (pk_var (i := 2) rfl) (PAK.ak (pa_1 pk_int)) (fun _ => rfl)))) ?k1303
       case k1303 =>
        intro y_10 most_9
        refine' sk_name 0 rfl ?k1304
        case k1304 =>
         intro w_11
         refine' sk_st (ρ2 := [.val (tLK tI) a, .val tI x_2, .val tR l_7, .val tI most_9, .un, .un, .un, .un, .un, .un, .un, .un, .un, .un, .un]) (cs2 := [⟨l_7, cL tI w_11⟩]) rfl rfl ?k1305
         case k1305 =>
          refine' sk_st (ρ2 := [.val (tLK tI) a, .val tI x_2, .val tR l_7, .val tI most_9, .un, .un, .un, .un, .un, .un, .un, .un, .un, .un, .un]) (cs2 := [⟨l_7, cL tI w_11⟩]) rfl rfl ?k1306
          case k1306 =>
           refine' sk_setE (i := 4) (by exact sc.nd) (ek_o1 0 g_names.F sl1 (hr.mono (by decide)) g_names.m g_names.k g_names.b (pk_var (i := 2) rfl) (ak_1 (ek_op op_add r2_I0 (PK.ek pk_int) (fun _ => (ek_o1 0 g_draw.F sl1 (hr.mono (by decide)) g_draw.m g_draw.k g_draw.b (pk_var (i := 2) rfl) (PAK.ak (pa_1 pk_int)) (fun _ => rfl))))) (fun _ => rfl)) ?k1307
           case k1307 =>
            intro y_13 letters_12
            refine' sk_name 0 rfl ?k1308
            case k1308 =>
             intro w_14
             refine' sk_st (ρ2 := [.val (tLK tI) a, .val tI x_2, .val tR l_7, .val tI most_9, .val (tL tS) letters_12, .un, .un, .un, .un, .un, .un, .un, .un, .un, .un]) (cs2 := [⟨l_7, cL tI w_14⟩]) rfl rfl ?k1309
             case k1309 =>
              refine' sk_st (ρ2 := [.val (tLK tI) a, .val tI x_2, .val tR l_7, .val tI most_9, .val (tL tS) letters_12, .un, .un, .un, .un, .un, .un, .un, .un, .un, .un]) (cs2 := [⟨l_7, cL tI w_14⟩]) rfl rfl ?k1310
              case k1310 =>
               refine' sk_setG (gk_lstT rfl (gs_C (gk_name (i := 5) (by exact sc.nd)) (gs_1 (gk_name (i := 6) (by exact sc.nd)))) (tlC tl1)) (EK.lt (T := (tT (tsC (tL (tL tI)) (ts1 (tL tI))))) (ltcC ltc1) ?lc202) ?k1312
               case lc202 =>
                refine' NE.ek (ne_lc rfl (by exact sc.nd) ?lc200 ?lc199 ?lc201)
                case lc200 =>
                 exact blkOk_by (own := [("_law_turn", 13)]) (N := ["_law_script", "_law_k", "_law_flow_here", "_law_most", "_law_letters", "_law_one", "_law_other", "_law_further", "_law_strange_here", "_law_first", "_law_second", "_law_asked", "_law_words", "_law_turn", "_law_letter"]) (sc := defScope s_law) (by decide +kernel)
                case lc199 =>
                 exact lc_k (own := [("_law_turn", 13)]) (T := tI) (U := (tT (tsC (tL (tL tI)) (ts1 (tL tI))))) (G := fun ρ x => (List.set ρ 13 (.val tI x))) (vs := [13]) (cs' := (fun c_15 : List Int => [⟨l_7, cL tI c_15⟩])) (z0 := fun y => _) (IK.ie (ik_range1 bs.m_range pk_int)) (fun _ => rfl) (by decide) (fun _ _ _ _ _ => (gk_name (i := 13) (by exact sc.nd))) (fun _ _ _ _ _ _ _ => ts_0) (fun _ _ _ _ _ _ _ _ => (ek_o1 0 g_machine.F (slC sl1) (hr.mono (by decide)) g_machine.m g_machine.k g_machine.b (pk_var (i := 2) rfl) (ak_C (ek_op op_add r2_I0 (PK.ek pk_int) (fun _ => (ek_o1 0 g_draw.F sl1 (hr.mono (by decide)) g_draw.m g_draw.k g_draw.b (pk_var (i := 2) rfl) (PAK.ak (pa_1 (pk_var (i := 3) rfl))) (fun _ => rfl)))) (fun _ => (ak_1 (PK.ek (pk_var (i := 4) rfl))))) (fun _ => rfl)))
                case lc201 =>
                 exact fun _ => rfl
               case k1312 =>
                intro y_17 z_18
                refine' sk_name 0 rfl ?k1316
                case k1316 =>
                 intro w_19
                 refine' sk_st (ρ2 := [.val (tLK tI) a, .val tI x_2, .val tR l_7, .val tI most_9, .val (tL tS) letters_12, .val (tT (tsC (tL (tL tI)) (ts1 (tL tI)))) z_18.1, .val (tT (tsC (tL (tL tI)) (ts1 (tL tI)))) z_18.2, .un, .un, .un, .un, .un, .un, .un, .un]) (cs2 := [⟨l_7, cL tI w_19⟩]) rfl rfl ?k1317
                 case k1317 =>
                  refine' sk_st (ρ2 := [.val (tLK tI) a, .val tI x_2, .val tR l_7, .val tI most_9, .val (tL tS) letters_12, .val (tT (tsC (tL (tL tI)) (ts1 (tL tI)))) z_18.1, .val (tT (tsC (tL (tL tI)) (ts1 (tL tI)))) z_18.2, .un, .un, .un, .un, .un, .un, .un, .un]) (cs2 := [⟨l_7, cL tI w_19⟩]) rfl rfl ?k1318
                  case k1318 =>
                   refine' sk_setE (i := 7) (by exact sc.nd) (ek_o1 0 g_machine.F (slC sl1) (hr.mono (by decide)) g_machine.m g_machine.k g_machine.b (pk_var (i := 2) rfl) (ak_C (ek_op op_add r2_I0 (PK.ek pk_int) (fun _ => (ek_o1 0 g_draw.F sl1 (hr.mono (by decide)) g_draw.m g_draw.k g_draw.b (pk_var (i := 2) rfl) (PAK.ak (pa_1 pk_int)) (fun _ => rfl)))) (fun _ => (ak_1 (PK.ek (pk_var (i := 4) rfl))))) (fun _ => rfl)) ?k1319
                   case k1319 =>
                    intro y_21 further_20
                    refine' sk_name 0 rfl ?k1320
                    case k1320 =>
                     intro w_22
                     refine' sk_st (ρ2 := [.val (tLK tI) a, .val tI x_2, .val tR l_7, .val tI most_9, .val (tL tS) letters_12, .val (tT (tsC (tL (tL tI)) (ts1 (tL tI)))) z_18.1, .val (tT (tsC (tL (tL tI)) (ts1 (tL tI)))) z_18.2, .val (tT (tsC (tL (tL tI)) (ts1 (tL tI)))) further_20, .un, .un, .un, .un, .un, .un, .un]) (cs2 := [⟨l_7, cL tI w_22⟩]) rfl rfl ?k1321
                     case k1321 =>
                      refine' sk_st (ρ2 := [.val (tLK tI) a, .val tI x_2, .val tR l_7, .val tI most_9, .val (tL tS) letters_12, .val (tT (tsC (tL (tL tI)) (ts1 (tL tI)))) z_18.1, .val (tT (tsC (tL (tL tI)) (ts1 (tL tI)))) z_18.2, .val (tT (tsC (tL (tL tI)) (ts1 (tL tI)))) further_20, .un, .un, .un, .un, .un, .un, .un]) (cs2 := [⟨l_7, cL tI w_22⟩]) rfl rfl ?k1322
                      case k1322 =>
                       refine' sk_seq (sk_if1E (TWK.tk (tw_andC 0 (tk_cmp op_eq r2_eqI (ek_o1 0 g_draw.F sl1 (hr.mono (by decide)) g_draw.m g_draw.k g_draw.b (pk_var (i := 2) rfl) (PAK.ak (pa_1 pk_int)) (fun _ => rfl)) (fun _ => (PK.ek pk_int))) (fun _ => (tw_and1 (tk_not (tk_val (ek_o1G 0 g_long_turned sl1 hr hgd (pk_var (i := 2) rfl) (PAK.ak (pa_1 (pk_var (i := 4) rfl))) (fun _ => rfl)))))))) ?a1323 ?b1324)
                       case a1323 =>
                        intro y_23
                        refine' sk_name 0 rfl ?k1325
                        case k1325 =>
                         intro w_25
                         refine' sk_st (ρ2 := [.val (tLK tI) a, .val tI x_2, .val tR l_7, .val tI most_9, .val (tL tS) letters_12, .val (tT (tsC (tL (tL tI)) (ts1 (tL tI)))) z_18.1, .val (tT (tsC (tL (tL tI)) (ts1 (tL tI)))) z_18.2, .val (tT (tsC (tL (tL tI)) (ts1 (tL tI)))) further_20, .un, .un, .un, .un, .un, .un, .un]) (cs2 := [⟨l_7, cL tI w_25⟩]) rfl rfl ?k1326
                         case k1326 =>
                          refine' sk_drop 0 ?k1327
                          case k1327 =>
                           refine' sk_st (ρ2 := [.val (tLK tI) a, .val tI x_2, .val tR l_7, .val tI most_9, .val (tL tS) letters_12, .val (tT (tsC (tL (tL tI)) (ts1 (tL tI)))) z_18.1, .val (tT (tsC (tL (tL tI)) (ts1 (tL tI)))) z_18.2, .val (tT (tsC (tL (tL tI)) (ts1 (tL tI)))) further_20, .un, .un, .un, .un, .un, .un, .un]) (cs2 := []) rfl rfl ?k1328
                           case k1328 =>
                            exact sk_retF pk_bl
                       case b1324 =>
                        intro y_24
                        refine' sk_name 0 rfl ?k1329
                        case k1329 =>
                         intro w_26
                         refine' sk_st (ρ2 := [.val (tLK tI) a, .val tI x_2, .val tR l_7, .val tI most_9, .val (tL tS) letters_12, .val (tT (tsC (tL (tL tI)) (ts1 (tL tI)))) z_18.1, .val (tT (tsC (tL (tL tI)) (ts1 (tL tI)))) z_18.2, .val (tT (tsC (tL (tL tI)) (ts1 (tL tI)))) further_20, .un, .un, .un, .un, .un, .un, .un]) (cs2 := [⟨l_7, cL tI w_26⟩]) rfl rfl ?k1330
                         case k1330 =>
                          refine' sk_nilX rfl ?k1331
                          case k1331 =>
                           refine' sk_seq (sk_if1 (pt_not' (pt_val' (pk_fnG g_right (slC (slC (slC sl1))) hr hgd (pa_C (pk_var (i := 4) rfl) (pa_C (pk_var (i := 5) rfl) (pa_C (pk_var (i := 6) rfl) (pa_1 (pk_var (i := 7) rfl)))))))) ?a1332 ?b1333)
                           case a1332 =>
                            refine' sk_drop 0 ?k1334
                            case k1334 =>
                             refine' sk_st (ρ2 := [.val (tLK tI) a, .val tI x_2, .val tR l_7, .val tI most_9, .val (tL tS) letters_12, .val (tT (tsC (tL (tL tI)) (ts1 (tL tI)))) z_18.1, .val (tT (tsC (tL (tL tI)) (ts1 (tL tI)))) z_18.2, .val (tT (tsC (tL (tL tI)) (ts1 (tL tI)))) further_20, .un, .un, .un, .un, .un, .un, .un]) (cs2 := []) rfl rfl ?k1335
                             case k1335 =>
                              exact sk_retF pk_bl
                           case b1333 =>
                            refine' sk_nilX rfl ?k1336
                            case k1336 =>
                             refine' sk_setE (i := 8) (by exact sc.nd) (ek_o1 0 g_strange.F sl1 (hr.mono (by decide)) g_strange.m g_strange.k g_strange.b (pk_var (i := 2) rfl) (PAK.ak (pa_1 (pk_var (i := 4) rfl))) (fun _ => rfl)) ?k1337
                             case k1337 =>
                              intro y_28 strange_here_27
                              refine' sk_name 0 rfl ?k1338
                              case k1338 =>
                               intro w_29
                               refine' sk_st (ρ2 := [.val (tLK tI) a, .val tI x_2, .val tR l_7, .val tI most_9, .val (tL tS) letters_12, .val (tT (tsC (tL (tL tI)) (ts1 (tL tI)))) z_18.1, .val (tT (tsC (tL (tL tI)) (ts1 (tL tI)))) z_18.2, .val (tT (tsC (tL (tL tI)) (ts1 (tL tI)))) further_20, .val (tL tS) strange_here_27, .un, .un, .un, .un, .un, .un]) (cs2 := [⟨l_7, cL tI w_29⟩]) rfl rfl ?k1339
                               case k1339 =>
                                refine' sk_st (ρ2 := [.val (tLK tI) a, .val tI x_2, .val tR l_7, .val tI most_9, .val (tL tS) letters_12, .val (tT (tsC (tL (tL tI)) (ts1 (tL tI)))) z_18.1, .val (tT (tsC (tL (tL tI)) (ts1 (tL tI)))) z_18.2, .val (tT (tsC (tL (tL tI)) (ts1 (tL tI)))) further_20, .val (tL tS) strange_here_27, .un, .un, .un, .un, .un, .un]) (cs2 := [⟨l_7, cL tI w_29⟩]) rfl rfl ?k1340
                                case k1340 =>
                                 refine' sk_setE (i := 9) (by exact sc.nd) (ek_makeS g_Machine_init (hr.mono (by decide)) (slC (slC sl1)) (PAK.ak (pa_C (pk_var (i := 4) rfl) (pa_C (pk_ixT Nth.here (pk_var (i := 5) rfl)) (pa_1 (pk_ixT (Nth.next Nth.one) (pk_var (i := 5) rfl))))))) ?k1341
                                 case k1341 =>
                                  intro y_31 first_30
                                  refine' sk_st (ρ2 := [.val (tLK tI) a, .val tI x_2, .val tR l_7, .val tI most_9, .val (tL tS) letters_12, .val (tT (tsC (tL (tL tI)) (ts1 (tL tI)))) z_18.1, .val (tT (tsC (tL (tL tI)) (ts1 (tL tI)))) z_18.2, .val (tT (tsC (tL (tL tI)) (ts1 (tL tI)))) further_20, .val (tL tS) strange_here_27, .val (ty_Machine C_Machine) first_30, .un, .un, .un, .un, .un]) (cs2 := [⟨l_7, cL tI w_29⟩]) rfl rfl ?k1342
                                  case k1342 =>
                                   refine' sk_setE (i := 10) (by exact sc.nd) (ek_makeS g_Machine_init (hr.mono (by decide)) (slC (slC sl1)) (ak_C (PK.ek (pk_var (i := 8) rfl)) (fun _ => (ak_C (NE.ek (ek_lst (al_C (NE.ek (ne_lc rfl (by exact sc.nd) ?lc204 ?lc203 ?lc205)) (fun _ => al_0)) (fun _ => by simp))) (fun _ => (ak_1 (PK.ek (NK.pk (nk_lst (pl_C pk_int pl_0) (Nat.le_of_ble_eq_true rfl)))))))))) ?k1346
                                   case lc204 =>
                                    exact blkOk_by (own := [("_law_letter", 14)]) (N := ["_law_script", "_law_k", "_law_flow_here", "_law_most", "_law_letters", "_law_one", "_law_other", "_law_further", "_law_strange_here", "_law_first", "_law_second", "_law_asked", "_law_words", "_law_turn", "_law_letter"]) (sc := defScope s_law) (by decide +kernel)
                                   case lc203 =>
                                    exact lc_k (own := [("_law_letter", 14)]) (T := tS) (U := tI) (G := fun ρ x => (List.set ρ 14 (.val tS x))) (vs := [14]) (cs' := (fun _ : Unit => [⟨l_7, cL tI w_29⟩])) (z0 := fun y => ()) (s1 := fun _ _ _ => ()) (s2 := fun _ _ _ _ => ()) (IK.ie (ik_list (pk_var (i := 8) rfl))) (fun _ => rfl) (by decide) (fun _ _ _ _ _ => (gk_name (i := 14) (by exact sc.nd))) (fun _ _ _ _ _ _ _ => ts_0) (fun _ _ _ _ _ _ _ _ => (PK.ek pk_int))
                                   case lc205 =>
                                    exact fun _ => rfl
                                   case k1346 =>
                                    intro y_35 second_34
                                    refine' sk_st (ρ2 := [.val (tLK tI) a, .val tI x_2, .val tR l_7, .val tI most_9, .val (tL tS) letters_12, .val (tT (tsC (tL (tL tI)) (ts1 (tL tI)))) z_18.1, .val (tT (tsC (tL (tL tI)) (ts1 (tL tI)))) z_18.2, .val (tT (tsC (tL (tL tI)) (ts1 (tL tI)))) further_20, .val (tL tS) strange_here_27, .val (ty_Machine C_Machine) first_30, .val (ty_Machine C_Machine) second_34, .un, .un, .un, .un]) (cs2 := [⟨l_7, cL tI w_29⟩]) rfl rfl ?k1347
                                    case k1347 =>
                                     refine' sk_for (fun _ : Unit => [.val (tLK tI) a, .val tI x_2, .val tR l_7, .val tI most_9, .val (tL tS) letters_12, .val (tT (tsC (tL (tL tI)) (ts1 (tL tI)))) z_18.1, .val (tT (tsC (tL (tL tI)) (ts1 (tL tI)))) z_18.2, .val (tT (tsC (tL (tL tI)) (ts1 (tL tI)))) further_20, .val (tL tS) strange_here_27, .val (ty_Machine C_Machine) first_30, .val (ty_Machine C_Machine) second_34, .un, .un, .un, .un]) (fun _ : Unit => [⟨l_7, cL tI w_29⟩]) () hp rfl (ik_tup (pk_tupU (pl_C (PK.fnA (g := f_either) (pk_fnv g_both.m)) (pl_C (PK.fnB (f := f_both) (pk_fnv g_either.m)) pl_0)) (Nat.le_of_ble_eq_true rfl))) (gk_name (i := 11) (by exact sc.nd)) (.same (.same (.same (.same (.same (.same (.same (.same (.same (.same (.same (.same (.same (.same (.same .nil))))))))))))))) rfl ?b1348 ?k1349
                                     case b1348 =>
                                      intro fl_40 hs_39 N_38 z_36 x_37
                                      refine' sk_st (ρ2 := [.val (tLK tI) a, .val tI x_2, .val tR l_7, .val tI most_9, .val (tL tS) letters_12, .val (tT (tsC (tL (tL tI)) (ts1 (tL tI)))) z_18.1, .val (tT (tsC (tL (tL tI)) (ts1 (tL tI)))) z_18.2, .val (tT (tsC (tL (tL tI)) (ts1 (tL tI)))) further_20, .val (tL tS) strange_here_27, .val (ty_Machine C_Machine) first_30, .val (ty_Machine C_Machine) second_34, .val (tFn2 f_both f_either) x_37, .un, .un, .un]) (cs2 := [⟨l_7, cL tI w_29⟩]) rfl rfl ?k1350
                                      case k1350 =>
                                       refine' sk_set (i := 12) (by exact sc.nd) (NK.pk (nk_lst (pl_C (pk_fn g_word.F (slC (slC sl1)) (hr.mono (by decide)) g_word.m g_word.k g_word.b (pa_C (pk_var (i := 11) rfl) (pa_C (pk_var (i := 9) rfl) (pa_1 (pk_var (i := 10) rfl))))) (pl_C (pk_fn g_word.F (slC (slC sl1)) (hr.mono (by decide)) g_word.m g_word.k g_word.b (pa_C (pk_var (i := 11) rfl) (pa_C (pk_var (i := 10) rfl) (pa_1 (pk_var (i := 9) rfl))))) pl_0)) (Nat.le_of_ble_eq_true rfl))) ?k1351
                                       case k1351 =>
                                        intro words_41
                                        refine' sk_st (ρ2 := [.val (tLK tI) a, .val tI x_2, .val tR l_7, .val tI most_9, .val (tL tS) letters_12, .val (tT (tsC (tL (tL tI)) (ts1 (tL tI)))) z_18.1, .val (tT (tsC (tL (tL tI)) (ts1 (tL tI)))) z_18.2, .val (tT (tsC (tL (tL tI)) (ts1 (tL tI)))) further_20, .val (tL tS) strange_here_27, .val (ty_Machine C_Machine) first_30, .val (ty_Machine C_Machine) second_34, .val (tFn2 f_both f_either) x_37, .val (tL tS) words_41, .un, .un]) (cs2 := [⟨l_7, cL tI w_29⟩]) rfl rfl ?k1352
                                        case k1352 =>
                                         refine' sk_seq (sk_if1 (pt_neV hr.units (dv_sv (dL (@dS K))) (dv_sv (dL (@dS K))) sv_stays (eqv_dec (dL (@dS K)) _ _) (PK.v (pk_var (i := 12) rfl)) (PK.v (NK.pk (nk_rep (NK.l (nk_lst (pl_C pk_str pl_0) (Nat.le_of_ble_eq_true rfl))) pk_int)))) ?a1353 ?b1354)
                                         case a1353 =>
                                          refine' sk_drop 0 ?k1355
                                          case k1355 =>
                                           refine' sk_st (ρ2 := [.val (tLK tI) a, .val tI x_2, .val tR l_7, .val tI most_9, .val (tL tS) letters_12, .val (tT (tsC (tL (tL tI)) (ts1 (tL tI)))) z_18.1, .val (tT (tsC (tL (tL tI)) (ts1 (tL tI)))) z_18.2, .val (tT (tsC (tL (tL tI)) (ts1 (tL tI)))) further_20, .val (tL tS) strange_here_27, .val (ty_Machine C_Machine) first_30, .val (ty_Machine C_Machine) second_34, .val (tFn2 f_both f_either) x_37, .val (tL tS) words_41, .un, .un]) (cs2 := []) rfl rfl ?k1356
                                           case k1356 =>
                                            exact sk_retF pk_bl
                                         case b1354 =>
                                          refine' sk_nilX rfl ?k1357
                                          case k1357 =>
                                           exact sk_midX (z := ()) rfl (.same (.same (.same (.same (.same (.same (.same (.same (.same (.same (.same (.un (.un (.same (.same .nil))))))))))))))) rfl
                                     case k1349 =>
                                      intro z_36
                                      refine' sk_seq (sk_if1 (pt_not' (pt_val' (pk_fnG g_right (slC (slC (slC sl1))) hr hgd (pa_C (pk_var (i := 4) rfl) (pa_C (pk_var (i := 6) rfl) (pa_C (pk_var (i := 5) rfl) (pa_1 (pk_var (i := 7) rfl)))))))) ?a1358 ?b1359)
                                      case a1358 =>
                                       refine' sk_drop 0 ?k1360
                                       case k1360 =>
                                        refine' sk_st (ρ2 := [.val (tLK tI) a, .val tI x_2, .val tR l_7, .val tI most_9, .val (tL tS) letters_12, .val (tT (tsC (tL (tL tI)) (ts1 (tL tI)))) z_18.1, .val (tT (tsC (tL (tL tI)) (ts1 (tL tI)))) z_18.2, .val (tT (tsC (tL (tL tI)) (ts1 (tL tI)))) further_20, .val (tL tS) strange_here_27, .val (ty_Machine C_Machine) first_30, .val (ty_Machine C_Machine) second_34, .un, .un, .un, .un]) (cs2 := []) rfl rfl ?k1361
                                        case k1361 =>
                                         exact sk_retF pk_bl
                                      case b1359 =>
                                       refine' sk_nilX rfl ?k1362
                                       case k1362 =>
                                        refine' sk_drop 0 ?k1363
                                        case k1363 =>
                                         refine' sk_st (ρ2 := [.val (tLK tI) a, .val tI x_2, .val tR l_7, .val tI most_9, .val (tL tS) letters_12, .val (tT (tsC (tL (tL tI)) (ts1 (tL tI)))) z_18.1, .val (tT (tsC (tL (tL tI)) (ts1 (tL tI)))) z_18.2, .val (tT (tsC (tL (tL tI)) (ts1 (tL tI)))) further_20, .val (tL tS) strange_here_27, .val (ty_Machine C_Machine) first_30, .val (ty_Machine C_Machine) second_34, .un, .un, .un, .un]) (cs2 := []) rfl rfl ?k1364
                                         case k1364 =>
                                          exact sk_midX (z := ()) rfl (.same (.un (.un (.un (.un (.un (.un (.un (.un (.un (.un (.same (.same (.same (.same .nil))))))))))))))) rfl
   case k1299 =>
    intro z_1
    exact sk_retF pk_bl
  case vc =>
   intro h
   simp only [true_and, and_true, yes1, yes2]
   obtain ⟨hl, hφ⟩ := h
   have hφ : φ true := hφ _ rfl
   clear hl
   have hs := sizeLine_eq
   generalize hb : (if (if (a.length : Int) < 2 then (a.length : Int) else 2) > 1 then if (a.length : Int) < 2 then (a.length : Int) else 2 else 1) = nb
   have nb3 : nb = 1 ∨ nb = 2 := by rw [← hb]; split <;> split <;> omega
   clear hb
   refine ⟨⟨by omega, by omega⟩, fun _ _ => True, trivial, fun i _ x hx _ => ?_, fun _ _ => hφ⟩
   obtain ⟨ex, hi⟩ := rng_get hx
   refine ⟨⟨by show 0 ≤ x; omega, by show x ≤ 1000000; omega⟩, fun _ c f1 => ⟨⟨f1, by decide, by decide⟩, fun r0 w0 ⟨r00, r01, f2⟩ => ⟨⟨by show -6 ≤ r0; omega, by show r0 < 6; omega⟩, fun most emost w1 ew1 => ?_⟩⟩⟩
   have hmost : 1 ≤ most ∧ most ≤ 8 := by
     have q : r0 = 0 ∨ r0 = 1 ∨ r0 = 2 ∨ r0 = 3 ∨ r0 = 4 ∨ r0 = 5 := by omega
     rw [emost]
     rcases q with q | q | q | q | q | q <;> subst q <;> decide
   clear emost
   refine ⟨⟨by rw [ew1]; exact f2, by decide, by decide⟩, fun r1 w2 ⟨r10, r11, f3⟩ => ⟨⟨f3, by omega, by omega⟩, fun ls0 w3 ⟨hN0, f4⟩ ls els w4 ew4 => ?_⟩⟩
   have f4 : Fl w4 := by rw [ew4]; exact f4
   have hN : Names (1 + r1) ls := by rw [els]; exact hN0
   have hll : (ls.length : Int) = 1 + r1 := hN.1
   have hL : LsOk ls := ⟨fun e => by rw [e] at hll; simp at hll; omega, by omega, hN.2.1, hN.2.2⟩
   have l6 : ls.length ≤ 6 := by omega
   clear els ew4 hN0
   refine ⟨⟨by decide, by decide⟩, fun i acc w => Fl w ∧ acc.length = i ∧ ∀ t ∈ acc, TG ls.length t ∧ t.1.length ≤ 8, ⟨f4, rfl, fun t ht => (by cases ht)⟩, fun i acc w x hx ⟨i1, i2, i3⟩ => ⟨fun _ => ⟨⟨i1, by omega, by omega⟩, fun r w5 ⟨q0, q1, f5⟩ => ⟨⟨f5, by show 1 ≤ 1 + r; omega, by show 1 + r ≤ 24; omega, l6⟩, fun t w6 ht => ⟨ht.1, by rw [List.length_append, i2]; rfl, fun t' ht' => ?_⟩⟩⟩, fun e => (by cases e)⟩, fun acc w5 ⟨i1, i2, i3⟩ => ?_⟩
   · rcases List.mem_append.mp ht' with c | c
     · exact i3 t' c
     · rw [List.mem_singleton.mp c]
       have tl : (t.1.length : Int) = 1 + r := ht.2.1
       exact ⟨machine_tg ht (by omega) (by omega), by omega⟩
   obtain ⟨one, other, eacc⟩ : ∃ one other, acc = [one, other] := by
     have i2 : acc.length = 2 := i2
     match acc, i2 with
     | [a, b], _ => exact ⟨a, b, rfl⟩
   subst eacc
   refine ⟨rfl, fun z ez w6 ew6 => ?_⟩
   have f6 : Fl w6 := by rw [ew6]; exact i1
   have ez : z = (one, other) := ez
   subst ez
   have h1 := i3 one List.mem_cons_self
   have h2 := i3 other (List.mem_cons_of_mem _ List.mem_cons_self)
   refine ⟨⟨f6, by decide, by decide⟩, fun r2 w7 ⟨r20, r21, f7⟩ => ⟨⟨f7, by show 1 ≤ 1 + r2; omega, by show 1 + r2 ≤ 24; omega, l6⟩, fun t0 w8 ht further efur w9 ew9 => ?_⟩⟩
   have h3 : TG ls.length further ∧ further.1.length ≤ 8 := by
     have tl : (t0.1.length : Int) = 1 + r2 := ht.2.1
     rw [efur]
     exact ⟨machine_tg ht (by omega) (by omega), by omega⟩
   have f9 : Fl w9 := by rw [ew9]; exact ht.1
   clear ew9 efur ht
   have rest : ∀ w, Fl w → pre_right (ls, one, other, further) ∧ ((!K11.f_right (ls, one, other, further)) = true → φ false) ∧ ((!K11.f_right (ls, one, other, further)) = false → pre_strange w ls ∧ ∀ (r : List Str) (w_6 : List Int), post_strange w ls r w_6 → ∀ (z_3 : List Str), z_3 = r → ∀ (w : List Int), w = w_6 → pre_Machine_init (ls, one.1, one.2) ∧ ∀ (r : Ma), r = KN.f_Machine_init (ls, one.1, one.2) → ∀ (z_4 : Ma), z_4 = r → ∃ I_2 : Nat → List Int → Unit → Prop, I_2 0 [] () ∧ (∀ (i : Nat) (acc : List Int) (z : Unit) (x : Str), z_3[i]? = some x → I_2 i acc z → (True → I_2 (i + 1) (acc ++ [0]) ()) ∧ (true = false → I_2 (i + 1) acc ())) ∧ ∀ (acc : List Int) (z_5 : Unit), I_2 z_3.length acc z_5 → pre_Machine_init (z_3, [acc], [0]) ∧ ∀ (r : Ma), r = KN.f_Machine_init (z_3, [acc], [0]) → ∀ (z_6 : Ma), z_6 = r → ∃ I_3 : Nat → Unit → Prop, I_3 0 () ∧ (∀ (i : Nat) (z : Unit) (x : Bool), [false, true][i]? = some x → I_3 i z → (pre_word (x, z_4, z_6) ∧ pre_word (x, z_6, z_4)) ∧ ∀ (z : List Str), z = [K11.f_word (x, z_4, z_6), K11.f_word (x, z_6, z_4)] → (-2 ^ 63 ≤ (2 : Int) ∧ (2 : Int) < 2 ^ 63 ∧ [("letters value meet" : Str)].length * Int.toNat 2 ≤ sizeLine) ∧ ((!decide (z = (List.replicate (Int.toNat 2) [("letters value meet" : Str)]).flatten)) = true → φ false) ∧ ((!decide (z = (List.replicate (Int.toNat 2) [("letters value meet" : Str)]).flatten)) = false → I_3 (i + 1) ())) ∧ ∀ (z_7 : Unit), I_3 [false, true].length z_7 → pre_right (ls, other, one, further) ∧ ((!K11.f_right (ls, other, one, further)) = true → φ false) ∧ ((!K11.f_right (ls, other, one, further)) = false → True)) := fun w fw => by
     refine ⟨⟨hL, l6, h1.1, h2.1, h3.1, h1.2, h2.2, h3.2⟩, fun e => (by cases e), fun _ => ⟨⟨fw, hL, l6⟩, fun r wr ⟨_, hr, hne⟩ sl esl _ _ => ?_⟩⟩
     have hr : LsOk sl := by rw [esl]; exact hr
     have hne : sl ≠ ls := by rw [esl]; exact hne
     have hM1 : MaOk (ls, one.1, one.2) := ⟨tab_of hL h1.1, h1.1.2.1⟩
     refine ⟨hM1, fun m em m1 em1 => ⟨fun i acc _ => acc = (sl.take i).map fun _ => (0 : Int), rfl, fun i acc _ x hx hI => ⟨fun _ => ?_, fun e => (by cases e)⟩, fun acc _ hI => ?_⟩⟩
     · dsimp only at hI ⊢
       rw [map_step _ hx, hI]
     dsimp only at hI
     rw [List.take_length] at hI
     have em1 : m1 = (ls, one.1, one.2) := em1.trans em
     subst em1
     have hM2 : MaOk (sl, [acc], [0]) := by
       refine ⟨⟨by simp, by show 1 ≤ 64; decide, hr.ne, hr.l7, hr.nd, hr.w, fun row hrow => ?_, fun row hrow g hg => ?_⟩, by rfl⟩
       · have : row = acc := by simpa using hrow
         rw [this, hI, List.length_map]
       · have : row = acc := by simpa using hrow
         rw [this, hI] at hg
         obtain ⟨_, _, rfl⟩ := List.mem_map.mp hg
         exact ⟨by decide, by show (0 : Int) < 1; decide⟩
     refine ⟨hM2, fun m2 em2 m3 em3 => ⟨fun _ _ => True, trivial, fun i _ b _ _ => ⟨⟨?_, ?_⟩, fun z ez => ⟨⟨by decide, by decide, by rw [hs]; decide⟩, fun e => ?_, fun _ => trivial⟩⟩, fun _ _ => ⟨⟨hL, l6, h2.1, h1.1, h3.1, h2.2, h1.2, h3.2⟩, fun e => (by cases e), fun _ => trivial⟩⟩⟩
     · have em3 : m3 = (sl, [acc], [0]) := em3.trans em2
       subst em3
       refine ⟨hM1, hM2, ?_⟩
       have := h1.2
       show one.1.length * 1 ≤ 64
       omega
     · have em3 : m3 = (sl, [acc], [0]) := em3.trans em2
       subst em3
       refine ⟨hM2, hM1, ?_⟩
       have := h1.2
       show 1 * one.1.length ≤ 64
       omega
     · have em3 : m3 = (sl, [acc], [0]) := em3.trans em2
       subst em3
       have a1 : K11.f_word (b, (ls, one.1, one.2), (sl, [acc], [0])) = ("letters value meet" : Str) := if_neg (show ¬ ls = sl from fun c => hne c.symm)
       have a2 : K11.f_word (b, (sl, [acc], [0]), (ls, one.1, one.2)) = ("letters value meet" : Str) := if_neg (show ¬ sl = ls from hne)
       rw [a1, a2] at ez
       have eq : z = (List.replicate (Int.toNat 2) [("letters value meet" : Str)]).flatten := ez
       rw [decide_eq_true eq] at e
       cases e
   refine ⟨⟨f9, by decide, by decide⟩, fun r3 w10 ⟨_, _, f10⟩ => ⟨fun _ => ⟨fun e => (by cases e), fun _ w12 ew12 => rest w12 (by rw [ew12]; exact f10)⟩, fun _ => ⟨⟨f10, hL, l6⟩, fun b w11 ⟨f11, hb⟩ => ⟨fun e => ?_, fun _ w12 ew12 => rest w12 (by rw [ew12]; exact f11)⟩⟩⟩⟩
   rw [hb] at e
   cases e
end
end K11
namespace K11
open PySem PySem.Spec PyProof.Rows L2 MD KP KM KN KQ
theorem law_sp {K : PySem.W.Frag} {H : Hp} {a : Addr} {ns : List Int} (hl : ns.length ≤ 63) (hS : SqL K H a (ns.map V.int)) : (c_law K).sp [.ref a] H (fun v _ => v = .bl true) fun _ _ _ => False :=
  ⟨ns, H, .cons ⟨.ref a, rfl, a, ns.map V.int, rfl, hS, rl_of_ints, by rw [List.length_map, sizeLine_eq]; omega⟩ .nil, Same.refl H, fun c hc => (by cases hc), List.nodup_nil, hl, fun r er v F' H' _ hv => by
    subst er
    exact hv⟩
theorem all_mk {l : PySem.W.OpenLaw} {w : World} {K : PySem.W.Frag} {h : Heap} {mg : Str → Option Value} {fa C_Machine f_cell f_flow f_draw f_names f_Machine_init f_numbered f_classes f_least f_lclasses f_side_by_side f_alike_letters f_both f_either f_turned f_machine f_is_least f_formed f_three f_word f_strange f_right f_long_turned f_law C_MeetError C_OtherLetters : Addr} (X : K.In h) (G : h.Ns mainGlobals mg) (hfa : mg "law" = some (.ref fa))
    {oc0 kV0 dc0 pm0 cd0 ct0 : Value} {od0 an0 : Option Addr} {sl0 : Array (Option Value)}
    {oc1 kV1 dc1 pm1 cd1 ct1 : Value} {od1 an1 : Option Addr} {sl1 : Array (Option Value)}
    {oc2 kV2 dc2 pm2 cd2 ct2 : Value} {od2 an2 : Option Addr} {sl2 : Array (Option Value)}
    {oc3 kV3 dc3 pm3 cd3 ct3 : Value} {od3 an3 : Option Addr} {sl3 : Array (Option Value)}
    {oc4 kV4 dc4 pm4 cd4 ct4 : Value} {od4 an4 : Option Addr} {sl4 : Array (Option Value)}
    {oc5 kV5 dc5 pm5 cd5 ct5 : Value} {od5 an5 : Option Addr} {sl5 : Array (Option Value)}
    {oc6 kV6 dc6 pm6 cd6 ct6 : Value} {od6 an6 : Option Addr} {sl6 : Array (Option Value)}
    {oc7 kV7 dc7 pm7 cd7 ct7 : Value} {od7 an7 : Option Addr} {sl7 : Array (Option Value)}
    {oc8 kV8 dc8 pm8 cd8 ct8 : Value} {od8 an8 : Option Addr} {sl8 : Array (Option Value)}
    {oc9 kV9 dc9 pm9 cd9 ct9 : Value} {od9 an9 : Option Addr} {sl9 : Array (Option Value)}
    {oc10 kV10 dc10 pm10 cd10 ct10 : Value} {od10 an10 : Option Addr} {sl10 : Array (Option Value)}
    {oc11 kV11 dc11 pm11 cd11 ct11 : Value} {od11 an11 : Option Addr} {sl11 : Array (Option Value)}
    {oc12 kV12 dc12 pm12 cd12 ct12 : Value} {od12 an12 : Option Addr} {sl12 : Array (Option Value)}
    {oc13 kV13 dc13 pm13 cd13 ct13 : Value} {od13 an13 : Option Addr} {sl13 : Array (Option Value)}
    {oc14 kV14 dc14 pm14 cd14 ct14 : Value} {od14 an14 : Option Addr} {sl14 : Array (Option Value)}
    {oc15 kV15 dc15 pm15 cd15 ct15 : Value} {od15 an15 : Option Addr} {sl15 : Array (Option Value)}
    {oc16 kV16 dc16 pm16 cd16 ct16 : Value} {od16 an16 : Option Addr} {sl16 : Array (Option Value)}
    {oc17 kV17 dc17 pm17 cd17 ct17 : Value} {od17 an17 : Option Addr} {sl17 : Array (Option Value)}
    {oc18 kV18 dc18 pm18 cd18 ct18 : Value} {od18 an18 : Option Addr} {sl18 : Array (Option Value)}
    {oc19 kV19 dc19 pm19 cd19 ct19 : Value} {od19 an19 : Option Addr} {sl19 : Array (Option Value)}
    {oc20 kV20 dc20 pm20 cd20 ct20 : Value} {od20 an20 : Option Addr} {sl20 : Array (Option Value)}
    {oc21 kV21 dc21 pm21 cd21 ct21 : Value} {od21 an21 : Option Addr} {sl21 : Array (Option Value)}
    {oc22 kV22 dc22 pm22 cd22 ct22 : Value} {od22 an22 : Option Addr} {sl22 : Array (Option Value)}
    {nmX0 qX0 : Str} {NX0 : Addr} {bsX0 : List Value} {snX0 : List Str} {subX0 : List Value} {abX0 : Bool} {colX0 : Option Bool} {ddX0 : Option Addr} {m0X0 m1X0 m2X0 m3X0 m5X0 : Option Value}
    (aC_Machine : PySem.W.nsIn K mainGlobals "Machine" = some (some (.ref C_Machine)))
    (a0 : PySem.W.nsIn K mainGlobals "_law_cell" = some (some (.ref f_cell)))
    (l0 : K.lookup f_cell = some ⟨oc0, od0, .func (PySem.W.fnOf "_law_cell" "_law_cell" (defArgs s_cell) (defBody s_cell) (defScope s_cell) .none kV0 dc0 pm0 an0 cd0 ct0), sl0⟩)
    (c0 : PySem.W.codeIn K cd0 "_law_cell" = true)
    (k0 : PySem.W.keepIn K (.ref f_cell) = true)
    (a1 : PySem.W.nsIn K mainGlobals "_law_flow" = some (some (.ref f_flow)))
    (l1 : K.lookup f_flow = some ⟨oc1, od1, .func (PySem.W.fnOf "_law_flow" "_law_flow" (defArgs s_flow) (defBody s_flow) (defScope s_flow) .none kV1 dc1 pm1 an1 cd1 ct1), sl1⟩)
    (c1 : PySem.W.codeIn K cd1 "_law_flow" = true)
    (k1 : PySem.W.keepIn K (.ref f_flow) = true)
    (a2 : PySem.W.nsIn K mainGlobals "_law_draw" = some (some (.ref f_draw)))
    (l2 : K.lookup f_draw = some ⟨oc2, od2, .func (PySem.W.fnOf "_law_draw" "_law_draw" (defArgs s_draw) (defBody s_draw) (defScope s_draw) .none kV2 dc2 pm2 an2 cd2 ct2), sl2⟩)
    (c2 : PySem.W.codeIn K cd2 "_law_draw" = true)
    (k2 : PySem.W.keepIn K (.ref f_draw) = true)
    (a3 : PySem.W.nsIn K mainGlobals "_law_names" = some (some (.ref f_names)))
    (l3 : K.lookup f_names = some ⟨oc3, od3, .func (PySem.W.fnOf "_law_names" "_law_names" (defArgs s_names) (defBody s_names) (defScope s_names) .none kV3 dc3 pm3 an3 cd3 ct3), sl3⟩)
    (c3 : PySem.W.codeIn K cd3 "_law_names" = true)
    (k3 : PySem.W.keepIn K (.ref f_names) = true)
    (a4 : PySem.W.findIn K (.ref C_Machine) "__init__" = some (some (.ref f_Machine_init)))
    (i4 : PySem.W.isFn K (.ref f_Machine_init) = true)
    (l4 : K.lookup f_Machine_init = some ⟨oc4, od4, .func (PySem.W.fnOf "__init__" "Machine.__init__" (defArgs s_Machine_init) (defBody s_Machine_init) (defScope s_Machine_init) .none kV4 dc4 pm4 an4 cd4 ct4), sl4⟩)
    (c4 : PySem.W.codeIn K cd4 "Machine.__init__" = true)
    (k4 : PySem.W.keepIn K (.ref f_Machine_init) = true)
    (a5 : PySem.W.nsIn K mainGlobals "numbered" = some (some (.ref f_numbered)))
    (l5 : K.lookup f_numbered = some ⟨oc5, od5, .func (PySem.W.fnOf "numbered" "numbered" (defArgs s_numberedB) (defBody s_numberedB) (defScope s_numberedB) .none kV5 dc5 pm5 an5 cd5 ct5), sl5⟩)
    (c5 : PySem.W.codeIn K cd5 "numbered" = true)
    (k5 : PySem.W.keepIn K (.ref f_numbered) = true)
    (a6 : PySem.W.nsIn K mainGlobals "classes" = some (some (.ref f_classes)))
    (l6 : K.lookup f_classes = some ⟨oc6, od6, .func (PySem.W.fnOf "classes" "classes" (defArgs s_classes) (defBody s_classes) (defScope s_classes) .none kV6 dc6 pm6 an6 cd6 ct6), sl6⟩)
    (c6 : PySem.W.codeIn K cd6 "classes" = true)
    (k6 : PySem.W.keepIn K (.ref f_classes) = true)
    (a7 : PySem.W.nsIn K mainGlobals "least" = some (some (.ref f_least)))
    (l7 : K.lookup f_least = some ⟨oc7, od7, .func (PySem.W.fnOf "least" "least" (defArgs s_least) (defBody s_least) (defScope s_least) .none kV7 dc7 pm7 an7 cd7 ct7), sl7⟩)
    (c7 : PySem.W.codeIn K cd7 "least" = true)
    (k7 : PySem.W.keepIn K (.ref f_least) = true)
    (a8 : PySem.W.nsIn K mainGlobals "_law_classes" = some (some (.ref f_lclasses)))
    (l8 : K.lookup f_lclasses = some ⟨oc8, od8, .func (PySem.W.fnOf "_law_classes" "_law_classes" (defArgs s_lclasses) (defBody s_lclasses) (defScope s_lclasses) .none kV8 dc8 pm8 an8 cd8 ct8), sl8⟩)
    (c8 : PySem.W.codeIn K cd8 "_law_classes" = true)
    (k8 : PySem.W.keepIn K (.ref f_lclasses) = true)
    (a9 : PySem.W.nsIn K mainGlobals "side_by_side" = some (some (.ref f_side_by_side)))
    (l9 : K.lookup f_side_by_side = some ⟨oc9, od9, .func (PySem.W.fnOf "side_by_side" "side_by_side" (defArgs s_side_by_side) (defBody s_side_by_side) (defScope s_side_by_side) .none kV9 dc9 pm9 an9 cd9 ct9), sl9⟩)
    (c9 : PySem.W.codeIn K cd9 "side_by_side" = true)
    (k9 : PySem.W.keepIn K (.ref f_side_by_side) = true)
    (a10 : PySem.W.nsIn K mainGlobals "alike_letters" = some (some (.ref f_alike_letters)))
    (l10 : K.lookup f_alike_letters = some ⟨oc10, od10, .func (PySem.W.fnOf "alike_letters" "alike_letters" (defArgs s_alike_letters) (defBody s_alike_letters) (defScope s_alike_letters) .none kV10 dc10 pm10 an10 cd10 ct10), sl10⟩)
    (c10 : PySem.W.codeIn K cd10 "alike_letters" = true)
    (k10 : PySem.W.keepIn K (.ref f_alike_letters) = true)
    (a11 : PySem.W.nsIn K mainGlobals "both" = some (some (.ref f_both)))
    (l11 : K.lookup f_both = some ⟨oc11, od11, .func (PySem.W.fnOf "both" "both" (defArgs s_both) (defBody s_both) (defScope s_both) .none kV11 dc11 pm11 an11 cd11 ct11), sl11⟩)
    (c11 : PySem.W.codeIn K cd11 "both" = true)
    (k11 : PySem.W.keepIn K (.ref f_both) = true)
    (a12 : PySem.W.nsIn K mainGlobals "either" = some (some (.ref f_either)))
    (l12 : K.lookup f_either = some ⟨oc12, od12, .func (PySem.W.fnOf "either" "either" (defArgs s_either) (defBody s_either) (defScope s_either) .none kV12 dc12 pm12 an12 cd12 ct12), sl12⟩)
    (c12 : PySem.W.codeIn K cd12 "either" = true)
    (k12 : PySem.W.keepIn K (.ref f_either) = true)
    (a13 : PySem.W.nsIn K mainGlobals "turned" = some (some (.ref f_turned)))
    (l13 : K.lookup f_turned = some ⟨oc13, od13, .func (PySem.W.fnOf "turned" "turned" (defArgs s_turned) (defBody s_turned) (defScope s_turned) .none kV13 dc13 pm13 an13 cd13 ct13), sl13⟩)
    (c13 : PySem.W.codeIn K cd13 "turned" = true)
    (k13 : PySem.W.keepIn K (.ref f_turned) = true)
    (a14 : PySem.W.nsIn K mainGlobals "_law_machine" = some (some (.ref f_machine)))
    (l14 : K.lookup f_machine = some ⟨oc14, od14, .func (PySem.W.fnOf "_law_machine" "_law_machine" (defArgs s_machine) (defBody s_machine) (defScope s_machine) .none kV14 dc14 pm14 an14 cd14 ct14), sl14⟩)
    (c14 : PySem.W.codeIn K cd14 "_law_machine" = true)
    (k14 : PySem.W.keepIn K (.ref f_machine) = true)
    (a15 : PySem.W.nsIn K mainGlobals "_law_is_least" = some (some (.ref f_is_least)))
    (l15 : K.lookup f_is_least = some ⟨oc15, od15, .func (PySem.W.fnOf "_law_is_least" "_law_is_least" (defArgs s_is_least) (defBody s_is_least) (defScope s_is_least) .none kV15 dc15 pm15 an15 cd15 ct15), sl15⟩)
    (c15 : PySem.W.codeIn K cd15 "_law_is_least" = true)
    (k15 : PySem.W.keepIn K (.ref f_is_least) = true)
    (a16 : PySem.W.nsIn K mainGlobals "_law_formed" = some (some (.ref f_formed)))
    (l16 : K.lookup f_formed = some ⟨oc16, od16, .func (PySem.W.fnOf "_law_formed" "_law_formed" (defArgs s_formed) (defBody s_formed) (defScope s_formed) .none kV16 dc16 pm16 an16 cd16 ct16), sl16⟩)
    (c16 : PySem.W.codeIn K cd16 "_law_formed" = true)
    (k16 : PySem.W.keepIn K (.ref f_formed) = true)
    (a17 : PySem.W.nsIn K mainGlobals "_law_three" = some (some (.ref f_three)))
    (l17 : K.lookup f_three = some ⟨oc17, od17, .func (PySem.W.fnOf "_law_three" "_law_three" (defArgs s_three) (defBody s_three) (defScope s_three) .none kV17 dc17 pm17 an17 cd17 ct17), sl17⟩)
    (c17 : PySem.W.codeIn K cd17 "_law_three" = true)
    (k17 : PySem.W.keepIn K (.ref f_three) = true)
    (a18 : PySem.W.nsIn K mainGlobals "_law_word" = some (some (.ref f_word)))
    (l18 : K.lookup f_word = some ⟨oc18, od18, .func (PySem.W.fnOf "_law_word" "_law_word" (defArgs s_word) (defBody s_word) (defScope s_word) .none kV18 dc18 pm18 an18 cd18 ct18), sl18⟩)
    (c18 : PySem.W.codeIn K cd18 "_law_word" = true)
    (k18 : PySem.W.keepIn K (.ref f_word) = true)
    (a19 : PySem.W.nsIn K mainGlobals "_law_strange" = some (some (.ref f_strange)))
    (l19 : K.lookup f_strange = some ⟨oc19, od19, .func (PySem.W.fnOf "_law_strange" "_law_strange" (defArgs s_strange) (defBody s_strange) (defScope s_strange) .none kV19 dc19 pm19 an19 cd19 ct19), sl19⟩)
    (c19 : PySem.W.codeIn K cd19 "_law_strange" = true)
    (k19 : PySem.W.keepIn K (.ref f_strange) = true)
    (a20 : PySem.W.nsIn K mainGlobals "_law_right" = some (some (.ref f_right)))
    (l20 : K.lookup f_right = some ⟨oc20, od20, .func (PySem.W.fnOf "_law_right" "_law_right" (defArgs s_right) (defBody s_right) (defScope s_right) .none kV20 dc20 pm20 an20 cd20 ct20), sl20⟩)
    (c20 : PySem.W.codeIn K cd20 "_law_right" = true)
    (k20 : PySem.W.keepIn K (.ref f_right) = true)
    (a21 : PySem.W.nsIn K mainGlobals "_law_long_turned" = some (some (.ref f_long_turned)))
    (l21 : K.lookup f_long_turned = some ⟨oc21, od21, .func (PySem.W.fnOf "_law_long_turned" "_law_long_turned" (defArgs s_long_turned) (defBody s_long_turned) (defScope s_long_turned) .none kV21 dc21 pm21 an21 cd21 ct21), sl21⟩)
    (c21 : PySem.W.codeIn K cd21 "_law_long_turned" = true)
    (k21 : PySem.W.keepIn K (.ref f_long_turned) = true)
    (a22 : PySem.W.nsIn K mainGlobals "law" = some (some (.ref f_law)))
    (l22 : K.lookup f_law = some ⟨oc22, od22, .func (PySem.W.fnOf "law" "law" (defArgs s_law) (defBody s_law) (defScope s_law) .none kV22 dc22 pm22 an22 cd22 ct22), sl22⟩)
    (c22 : PySem.W.codeIn K cd22 "law" = true)
    (k22 : PySem.W.keepIn K (.ref f_law) = true)
    (pg_Machine : PySem.W.plainGet K C_Machine Str.empty = true)
    (hd_Machine : PySem.W.hasDictIn K C_Machine = true)
    (po_Machine : PySem.W.plainOver K C_Machine = true)
    (sa_Machine : PySem.W.findIn K (.ref C_Machine) "__setattr__" = some (some (.builtin "object.__setattr__")))
    (mk_Machine : PySem.W.makesIn K C_Machine = true)
    (kc_Machine : PySem.W.keepIn K (.ref C_Machine) = true)
    (n_Machine_letters : PySem.W.findIn K (.ref C_Machine) "letters" = some none)
    (n_Machine_table : PySem.W.findIn K (.ref C_Machine) "table" = some none)
    (n_Machine_good : PySem.W.findIn K (.ref C_Machine) "good" = some none)
    (z_len : PySem.W.nsIn K mainGlobals "len" = some none)
    (z_range : PySem.W.nsIn K mainGlobals "range" = some none)
    (z_sorted : PySem.W.nsIn K mainGlobals "sorted" = some none)
    (z_set : PySem.W.nsIn K mainGlobals "set" = some none)
    (z_tuple : PySem.W.nsIn K mainGlobals "tuple" = some none)
    (z_list : PySem.W.nsIn K mainGlobals "list" = some none)
    (z_isinstance : PySem.W.nsIn K mainGlobals "isinstance" = some none)
    (z_all : PySem.W.nsIn K mainGlobals "all" = some none)
    (z_any : PySem.W.nsIn K mainGlobals "any" = some none)
    (z_int : PySem.W.nsIn K mainGlobals "int" = some none)
    (z_max : PySem.W.nsIn K mainGlobals "max" = some none)
    (z_min : PySem.W.nsIn K mainGlobals "min" = some none)
    (z_str : PySem.W.nsIn K mainGlobals "str" = some none)
    (z_enumerate : PySem.W.nsIn K mainGlobals "enumerate" = some none)
    (z_bool : PySem.W.nsIn K mainGlobals "bool" = some none)
    (z_dict : PySem.W.nsIn K mainGlobals "dict" = some none)
    (z_zip : PySem.W.nsIn K mainGlobals "zip" = some none)
    (z_repr : PySem.W.nsIn K mainGlobals "repr" = some none)
    (z_ValueError : PySem.W.nsIn K mainGlobals "ValueError" = some none)
    (aX_MeetError : PySem.W.nsIn K mainGlobals "MeetError" = some (some (.ref C_MeetError)))
    (sb_MeetError : PySem.W.subIn K (.ref C_MeetError) (.type "BaseException") = some true)
    (hx_MeetError : PySem.W.hasDictIn K C_MeetError = true)
    (tx_MeetError : PySem.W.typeIn K (.ref C_MeetError) = some (.type "type"))
    (ss_MeetError : PySem.W.subIn K (.ref C_MeetError) (.ref C_MeetError) = some true)
    (aX_OtherLetters : PySem.W.nsIn K mainGlobals "OtherLetters" = some (some (.ref C_OtherLetters)))
    (sb_OtherLetters : PySem.W.subIn K (.ref C_OtherLetters) (.type "BaseException") = some true)
    (hx_OtherLetters : PySem.W.hasDictIn K C_OtherLetters = true)
    (tx_OtherLetters : PySem.W.typeIn K (.ref C_OtherLetters) = some (.type "type"))
    (ss_OtherLetters : PySem.W.subIn K (.ref C_OtherLetters) (.ref C_OtherLetters) = some true)
    (xL_OtherLetters : K.lookup C_OtherLetters = some (excClassObj nmX0 qX0 C_OtherLetters NX0 bsX0 [.ref C_MeetError, .type "ValueError", .type "Exception", .type "BaseException", .type "object"] true snX0 subX0 abX0 colX0 ddX0 m0X0 m1X0 m2X0 m3X0 m5X0 "ValueError.__new__"))
    (sx_OtherLetters : PySem.W.findIn K (.ref C_OtherLetters) "__setattr__" = some (some (.builtin "object.__setattr__")))
    (kx_OtherLetters : PySem.W.keepIn K (.ref C_OtherLetters) = true)
    (gx_OtherLetters : PySem.W.findIn K (.ref C_OtherLetters) "__getattribute__" = some (some (.builtin "BaseException.__getattribute__")))
    (gg_OtherLetters : PySem.W.findIn K (.ref C_OtherLetters) "__getattr__" = some none)
    (gc_OtherLetters : PySem.W.findIn K (.ref C_OtherLetters) "__class__" = some (some (.builtin "object.__class__")))
    (mo_OtherLetters : PySem.W.mroIn K C_OtherLetters (.type "object") = some true)
    (oc1 : PySem.W.specialIn K (.builtin "object.__class__") "__get__" = some (some (.builtin "getset_descriptor.__get__")))
    (oc2 : PySem.W.takesIn K (.builtin "object.__class__") = some true)
    (oX_OtherLetters : PySem.W.excIn K C_OtherLetters [.type "ValueError", .type "Exception", .type "BaseException", .type "object"] "ValueError.__new__" = true)
    (sp_OtherLetters_MeetError : PySem.W.subIn K (.ref C_OtherLetters) (.ref C_MeetError) = some true)
    (st_OtherLetters_ValueError : PySem.W.subIn K (.ref C_OtherLetters) (.type "ValueError") = some true)
    : ∃ fd : FuncData, (∀ (s : Shared) (v : Value), BindsTo s fd ⟨[v], []⟩ [("_law_script", v)]) ∧ ∀ base : Heap, K.In base → base.Ns mainGlobals mg → FnG l.prog w K mg base 8 fa fd ["_law_script"] (c_law K).sp := by
  have e := hfa.symm.trans (PySem.W.mg_of X G a22)
  cases e
  have F0 := fun_mk (st := s_cell) l0 c0 k0
  have b0 := F0.binds (ps := ["_law_script", "_law_k"]) fun _ _ _ _ _ _ us hl => match us, hl with | [_, _], _ => rfl
  have F1 := fun_mk (st := s_flow) l1 c1 k1
  have b1 := F1.binds (ps := ["_law_script", "_law_k"]) fun _ _ _ _ _ _ us hl => match us, hl with | [_, _], _ => rfl
  have F2 := fun_mk (st := s_draw) l2 c2 k2
  have b2 := F2.binds (ps := ["_law_flow_here", "_law_many"]) fun _ _ _ _ _ _ us hl => match us, hl with | [_, _], _ => rfl
  have F3 := fun_mk (st := s_names) l3 c3 k3
  have b3 := F3.binds (ps := ["_law_flow_here", "_law_many"]) fun _ _ _ _ _ _ us hl => match us, hl with | [_, _], _ => rfl
  have F4 := fun_mk (st := s_Machine_init) l4 c4 k4
  have b4 := F4.binds (ps := ["self", "letters", "table", "good"]) fun _ _ _ _ _ _ us hl => match us, hl with | [_, _, _, _], _ => rfl
  have F5 := fun_mk (st := s_numberedB) l5 c5 k5
  have b5 := F5.binds (ps := ["signs"]) fun _ _ _ _ _ _ us hl => match us, hl with | [_], _ => rfl
  have F6 := fun_mk (st := s_classes) l6 c6 k6
  have b6 := F6.binds (ps := ["machine"]) fun _ _ _ _ _ _ us hl => match us, hl with | [_], _ => rfl
  have F7 := fun_mk (st := s_least) l7 c7 k7
  have b7 := F7.binds (ps := ["machine"]) fun _ _ _ _ _ _ us hl => match us, hl with | [_], _ => rfl
  have F8 := fun_mk (st := s_lclasses) l8 c8 k8
  have b8 := F8.binds (ps := ["_law_table", "_law_good"]) fun _ _ _ _ _ _ us hl => match us, hl with | [_, _], _ => rfl
  have F9 := fun_mk (st := s_side_by_side) l9 c9 k9
  have b9 := F9.binds (ps := ["one", "other"]) fun _ _ _ _ _ _ us hl => match us, hl with | [_, _], _ => rfl
  have F10 := fun_mk (st := s_alike_letters) l10 c10 k10
  have b10 := F10.binds (ps := ["one", "other"]) fun _ _ _ _ _ _ us hl => match us, hl with | [_, _], _ => rfl
  have F11 := fun_mk (st := s_both) l11 c11 k11
  have b11 := F11.binds (ps := ["one", "other"]) fun _ _ _ _ _ _ us hl => match us, hl with | [_, _], _ => rfl
  have F12 := fun_mk (st := s_either) l12 c12 k12
  have b12 := F12.binds (ps := ["one", "other"]) fun _ _ _ _ _ _ us hl => match us, hl with | [_, _], _ => rfl
  have F13 := fun_mk (st := s_turned) l13 c13 k13
  have b13 := F13.binds (ps := ["machine"]) fun _ _ _ _ _ _ us hl => match us, hl with | [_], _ => rfl
  have F14 := fun_mk (st := s_machine) l14 c14 k14
  have b14 := F14.binds (ps := ["_law_flow_here", "_law_many", "_law_letters"]) fun _ _ _ _ _ _ us hl => match us, hl with | [_, _, _], _ => rfl
  have F15 := fun_mk (st := s_is_least) l15 c15 k15
  have b15 := F15.binds (ps := ["_law_machine_here"]) fun _ _ _ _ _ _ us hl => match us, hl with | [_], _ => rfl
  have F16 := fun_mk (st := s_formed) l16 c16 k16
  have b16 := F16.binds (ps := ["_law_machine_here", "_law_letters"]) fun _ _ _ _ _ _ us hl => match us, hl with | [_, _], _ => rfl
  have F17 := fun_mk (st := s_three) l17 c17 k17
  have b17 := F17.binds (ps := ["_law_one", "_law_other", "_law_low"]) fun _ _ _ _ _ _ us hl => match us, hl with | [_, _, _], _ => rfl
  have F18 := fun_mk (st := s_word) l18 c18 k18
  have b18 := F18.binds (ps := ["_law_asked", "_law_one", "_law_other"]) fun _ _ _ _ _ _ us hl => match us, hl with | [_, _, _], _ => rfl
  have F19 := fun_mk (st := s_strange) l19 c19 k19
  have b19 := F19.binds (ps := ["_law_flow_here", "_law_letters"]) fun _ _ _ _ _ _ us hl => match us, hl with | [_, _], _ => rfl
  have F20 := fun_mk (st := s_right) l20 c20 k20
  have b20 := F20.binds (ps := ["_law_letters", "_law_one", "_law_other", "_law_further"]) fun _ _ _ _ _ _ us hl => match us, hl with | [_, _, _, _], _ => rfl
  have F21 := fun_mk (st := s_long_turned) l21 c21 k21
  have b21 := F21.binds (ps := ["_law_flow_here", "_law_letters"]) fun _ _ _ _ _ _ us hl => match us, hl with | [_, _], _ => rfl
  have F22 := fun_mk (st := s_law) l22 c22 k22
  have b22 := F22.binds (ps := ["_law_script"]) fun _ _ _ _ _ _ us hl => match us, hl with | [_], _ => rfl
  have bs : Bs mg := ⟨PySem.W.mg_none_of X G z_len, by decide +kernel, PySem.W.mg_none_of X G z_range, by decide +kernel, PySem.W.mg_none_of X G z_sorted, by decide +kernel, PySem.W.mg_none_of X G z_set, by decide +kernel, PySem.W.mg_none_of X G z_tuple, by decide +kernel, PySem.W.mg_none_of X G z_list, by decide +kernel, PySem.W.mg_none_of X G z_isinstance, by decide +kernel, PySem.W.mg_none_of X G z_all, by decide +kernel, PySem.W.mg_none_of X G z_any, by decide +kernel, PySem.W.mg_none_of X G z_int, by decide +kernel, PySem.W.mg_none_of X G z_max, by decide +kernel, PySem.W.mg_none_of X G z_min, by decide +kernel, PySem.W.mg_none_of X G z_str, by decide +kernel, PySem.W.mg_none_of X G z_enumerate, by decide +kernel, PySem.W.mg_none_of X G z_bool, by decide +kernel, PySem.W.mg_none_of X G z_dict, by decide +kernel, PySem.W.mg_none_of X G z_zip, by decide +kernel, PySem.W.mg_none_of X G z_repr, by decide +kernel, PySem.W.mg_none_of X G z_ValueError, by decide +kernel⟩
  have cl_Machine : Cl_Machine K C_Machine := ⟨⟨pg_Machine, hd_Machine, po_Machine, sa_Machine⟩, n_Machine_letters, n_Machine_table, n_Machine_good⟩
  have ox_OtherLetters : OexC K C_OtherLetters := { cls := ⟨_, _, _, _, _, _, _, _, _, _, _, _, _, _, _, xL_OtherLetters, rfl⟩, sa := sx_OtherLetters, exC := sb_OtherLetters, tyC := tx_OtherLetters, kC := kx_OtherLetters }
  have is_OtherLetters : ExcC K C_OtherLetters := { hg := gx_OtherLetters, hk := gg_OtherLetters, hs := sb_OtherLetters, hd := hx_OtherLetters, ha := gc_OtherLetters, hn := oc1, ht := oc2, hm := mo_OtherLetters }
  have xs : Xs K mg ({ OtherLetters := C_OtherLetters } : XA) C_MeetError := ⟨⟨PySem.W.mg_of X G aX_OtherLetters, ox_OtherLetters, is_OtherLetters⟩, oX_OtherLetters, PySem.W.mg_of X G aX_MeetError, PySem.W.mg_of X G aX_OtherLetters, kit_typ st_OtherLetters_ValueError, kit_ref sb_MeetError hx_MeetError tx_MeetError ss_MeetError sp_OtherLetters_MeetError, PySem.W.exm_ref sb_OtherLetters hx_OtherLetters tx_OtherLetters ss_OtherLetters⟩
  refine ⟨PySem.W.fnOf "law" "law" (defArgs s_law) (defBody s_law) (defScope s_law) .none kV22 dc22 pm22 an22 cd22 ct22, fun s v => .of_eq rfl, fun base _ _ => ?_⟩
  have g_cell : Cal l.prog w K mg base "_law_cell" 1 ["_law_script", "_law_k"] (c_cell K).sp f_cell _ := ⟨ok_cell bs F0, PySem.W.mg_of X G a0, k0, b0⟩
  have g_flow : Cal l.prog w K mg base "_law_flow" 2 ["_law_script", "_law_k"] (c_flow K).sp f_flow _ := ⟨ok_flow bs g_cell F1, PySem.W.mg_of X G a1, k1, b1⟩
  have g_draw : Cal l.prog w K mg base "_law_draw" 1 ["_law_flow_here", "_law_many"] (c_draw K).sp f_draw _ := ⟨ok_draw bs F2, PySem.W.mg_of X G a2, k2, b2⟩
  have g_names : Cal l.prog w K mg base "_law_names" 2 ["_law_flow_here", "_law_many"] (c_names K).sp f_names _ := ⟨ok_names bs g_draw F3, PySem.W.mg_of X G a3, k3, b3⟩
  have g_Machine_init : MkC l.prog w K mg base C_Machine "Machine" 2 ["self", "letters", "table", "good"] (c_Machine_init K C_Machine).sp f_Machine_init _ := ⟨ok_Machine_init bs cl_Machine F4, PySem.W.mg_of X G aC_Machine, ⟨mk_Machine, a4, i4, kc_Machine⟩, b4⟩
  have g_Machine_initU : MkC l.prog w K mg base C_Machine "Machine" 2 ["self", "letters", "table", "good"] (c_Machine_initU K C_Machine).sp f_Machine_init _ := ⟨ok_Machine_initU bs cl_Machine F4, PySem.W.mg_of X G aC_Machine, ⟨mk_Machine, a4, i4, kc_Machine⟩, b4⟩
  have g_numberedB : Cal l.prog w K mg base "numbered" 1 ["signs"] (c_numberedB K).sp f_numbered _ := ⟨ok_numberedB bs F5, PySem.W.mg_of X G a5, k5, b5⟩
  have g_numberedS : Cal l.prog w K mg base "numbered" 1 ["signs"] (c_numberedS K).sp f_numbered _ := ⟨ok_numberedS bs F5, PySem.W.mg_of X G a5, k5, b5⟩
  have g_classes : Cal l.prog w K mg base "classes" 2 ["machine"] (c_classes K C_Machine).sp f_classes _ := ⟨ok_classes bs cl_Machine g_numberedB g_numberedS F6, PySem.W.mg_of X G a6, k6, b6⟩
  have g_least : Cal l.prog w K mg base "least" 4 ["machine"] (c_least K C_Machine).sp f_least _ := ⟨ok_least bs cl_Machine g_Machine_init g_classes F7, PySem.W.mg_of X G a7, k7, b7⟩
  have g_lclasses : Cal l.prog w K mg base "_law_classes" 1 ["_law_table", "_law_good"] (c_lclasses K).sp f_lclasses _ := ⟨ok_lclasses bs F8, PySem.W.mg_of X G a8, k8, b8⟩
  have g_side_by_side : Cal l.prog w K mg base "side_by_side" 1 ["one", "other"] (c_side_by_side K C_Machine).sp f_side_by_side _ := ⟨ok_side_by_side bs cl_Machine F9, PySem.W.mg_of X G a9, k9, b9⟩
  have g_alike_letters : Cal l.prog w K mg base "alike_letters" 3 ["one", "other"] (c_alike_letters K C_Machine ({ OtherLetters := C_OtherLetters } : XA)).sp f_alike_letters _ := ⟨ok_alike_letters bs (xa := ({ OtherLetters := C_OtherLetters } : XA)) xs cl_Machine F10, PySem.W.mg_of X G a10, k10, b10⟩
  have g_both : Cal l.prog w K mg base "both" 5 ["one", "other"] (c_both K C_Machine ({ OtherLetters := C_OtherLetters } : XA)).sp f_both _ := ⟨ok_both bs (xa := ({ OtherLetters := C_OtherLetters } : XA)) xs cl_Machine g_Machine_init g_alike_letters g_least g_side_by_side F11, PySem.W.mg_of X G a11, k11, b11⟩
  have g_either : Cal l.prog w K mg base "either" 5 ["one", "other"] (c_either K C_Machine ({ OtherLetters := C_OtherLetters } : XA)).sp f_either _ := ⟨ok_either bs (xa := ({ OtherLetters := C_OtherLetters } : XA)) xs cl_Machine g_Machine_init g_alike_letters g_least g_side_by_side F12, PySem.W.mg_of X G a12, k12, b12⟩
  have g_turned : Cal l.prog w K mg base "turned" 5 ["machine"] (c_turned K C_Machine).sp f_turned _ := ⟨ok_turned bs cl_Machine g_Machine_init g_Machine_initU g_least F13, PySem.W.mg_of X G a13, k13, b13⟩
  have g_machine : Cal l.prog w K mg base "_law_machine" 2 ["_law_flow_here", "_law_many", "_law_letters"] (c_machine K).sp f_machine _ := ⟨ok_machine bs g_draw F14, PySem.W.mg_of X G a14, k14, b14⟩
  have g_is_least : Cal l.prog w K mg base "_law_is_least" 2 ["_law_machine_here"] (c_is_least K C_Machine).sp f_is_least _ := ⟨ok_is_least bs cl_Machine g_lclasses F15, PySem.W.mg_of X G a15, k15, b15⟩
  have g_formed : CalG l.prog w K mg base "_law_formed" 1 ["_law_machine_here", "_law_letters"] (c_formed K C_Machine).sp f_formed _ := ⟨ok_formed bs cl_Machine F16, PySem.W.mg_of X G a16, k16, b16⟩
  have g_three : Cal l.prog w K mg base "_law_three" 1 ["_law_one", "_law_other", "_law_low"] (c_three K C_Machine).sp f_three _ := ⟨ok_three bs cl_Machine F17, PySem.W.mg_of X G a17, k17, b17⟩
  have g_word : Cal l.prog w K mg base "_law_word" 6 ["_law_asked", "_law_one", "_law_other"] (c_word K C_Machine f_both f_either).sp f_word _ := ⟨ok_word bs (xa := ({ OtherLetters := C_OtherLetters } : XA)) xs cl_Machine g_both g_either F18, PySem.W.mg_of X G a18, k18, b18⟩
  have g_strange : Cal l.prog w K mg base "_law_strange" 2 ["_law_flow_here", "_law_letters"] (c_strange K).sp f_strange _ := ⟨ok_strange bs g_draw F19, PySem.W.mg_of X G a19, k19, b19⟩
  have g_right : CalG l.prog w K mg base "_law_right" 7 ["_law_letters", "_law_one", "_law_other", "_law_further"] (c_right K).sp f_right _ := ⟨ok_right bs (xa := ({ OtherLetters := C_OtherLetters } : XA)) xs cl_Machine g_both g_either g_Machine_init g_formed g_is_least g_three g_turned F20, PySem.W.mg_of X G a20, k20, b20⟩
  have g_long_turned : CalG l.prog w K mg base "_law_long_turned" 7 ["_law_flow_here", "_law_letters"] (c_long_turned K).sp f_long_turned _ := ⟨ok_long_turned bs cl_Machine g_Machine_init g_draw g_formed g_is_least g_three g_turned F21, PySem.W.mg_of X G a21, k21, b21⟩
  exact ok_law bs cl_Machine g_both g_either g_Machine_init g_draw g_flow g_long_turned g_machine g_names g_right g_strange g_word F22
theorem walk {l : PySem.W.OpenLaw} {q : Program} {loose : List Str} {XP : (Str → Option Value) → Heap → Prop} {YP : World → Heap → Prop} {d : DefRec} {K : Params → PySem.W.Frag} (hn : l.most = some 63) (hdf : d.params.defaults = [])
    (hY : ∀ (w : World) (h : Heap), YP w h → (K w.params).In h)
    (F : ∀ (w : World) (mg : Str → Option Value) (fa : Addr) (h : Heap), (K w.params).In h → h.Ns mainGlobals mg → mg d.name = some (.ref fa) →
      ∃ fd : FuncData, (∀ (s : Shared) (u : Value), BindsTo s fd ⟨[u], []⟩ [("_law_script", u)]) ∧ ∀ base : Heap, (K w.params).In base → base.Ns mainGlobals mg → FnG l.prog w (K w.params) mg base 8 fa fd ["_law_script"] (c_law (K w.params)).sp) :
    PySem.W.WalkO q loose XP YP l.row.toRowW d [] (fun f vs => PySem.call f vs) :=
  MD.walk_ofG (n := 63) (k := 8) (x := "_law_script") (sp := fun w => (c_law (K w.params)).sp) hn (by decide) hdf ⟨rfl, by decide, by decide⟩ hY F
    (fun w H a ns hl _ hS => law_sp hl hS) (fun w H s e s' z => by obtain ⟨_, _, _, _, _, _, _, _, _, _, _, _, h⟩ := z; exact h)
end K11
open PySem PySem.W PyProof.Rows in
set_option maxRecDepth 100000 in
set_option maxHeartbeats 0 in
theorem PySem.Challenge.cw_meetdesks_k11_both_either_turned_holds : PySem.Challenge.rw_meetdesks_k11_both_either_turned.Holds := by
  w_on; o_law; k_head; (case hw => w_witness2)
  k_fill
  refine K11.walk (l := PySem.Challenge.rw_meetdesks_k11_both_either_turned) rfl rfl (fun w h Y => PySem.W.kIn_of Y) ?F
  case F =>
    intro w mg fa h KX G hmg
    refine' K11.all_mk KX G hmg ?aC_Machine ?a0 ?l0 ?c0 ?k0 ?a1 ?l1 ?c1 ?k1 ?a2 ?l2 ?c2 ?k2 ?a3 ?l3 ?c3 ?k3 ?a4 ?i4 ?l4 ?c4 ?k4 ?a5 ?l5 ?c5 ?k5 ?a6 ?l6 ?c6 ?k6 ?a7 ?l7 ?c7 ?k7 ?a8 ?l8 ?c8 ?k8 ?a9 ?l9 ?c9 ?k9 ?a10 ?l10 ?c10 ?k10 ?a11 ?l11 ?c11 ?k11 ?a12 ?l12 ?c12 ?k12 ?a13 ?l13 ?c13 ?k13 ?a14 ?l14 ?c14 ?k14 ?a15 ?l15 ?c15 ?k15 ?a16 ?l16 ?c16 ?k16 ?a17 ?l17 ?c17 ?k17 ?a18 ?l18 ?c18 ?k18 ?a19 ?l19 ?c19 ?k19 ?a20 ?l20 ?c20 ?k20 ?a21 ?l21 ?c21 ?k21 ?a22 ?l22 ?c22 ?k22 ?pg_Machine ?hd_Machine ?po_Machine ?sa_Machine ?mk_Machine ?kc_Machine ?n_Machine_letters ?n_Machine_table ?n_Machine_good ?z_len ?z_range ?z_sorted ?z_set ?z_tuple ?z_list ?z_isinstance ?z_all ?z_any ?z_int ?z_max ?z_min ?z_str ?z_enumerate ?z_bool ?z_dict ?z_zip ?z_repr ?z_ValueError ?aX_MeetError ?sb_MeetError ?hx_MeetError ?tx_MeetError ?ss_MeetError ?aX_OtherLetters ?sb_OtherLetters ?hx_OtherLetters ?tx_OtherLetters ?ss_OtherLetters ?xL_OtherLetters ?sx_OtherLetters ?kx_OtherLetters ?gx_OtherLetters ?gg_OtherLetters ?gc_OtherLetters ?mo_OtherLetters ?oc1 ?oc2 ?oX_OtherLetters ?sp_OtherLetters_MeetError ?st_OtherLetters_ValueError
    (case aC_Machine => k_is)
    (case a0 => k_is)
    (case l0 => k_is)
    (case c0 => k_is)
    (case k0 => k_is)
    (case a1 => k_is)
    (case l1 => k_is)
    (case c1 => k_is)
    (case k1 => k_is)
    (case a2 => k_is)
    (case l2 => k_is)
    (case c2 => k_is)
    (case k2 => k_is)
    (case a3 => k_is)
    (case l3 => k_is)
    (case c3 => k_is)
    (case k3 => k_is)
    (case a4 => k_is)
    (case i4 => k_is)
    (case l4 => k_is)
    (case c4 => k_is)
    (case k4 => k_is)
    (case a5 => k_is)
    (case l5 => k_is)
    (case c5 => k_is)
    (case k5 => k_is)
    (case a6 => k_is)
    (case l6 => k_is)
    (case c6 => k_is)
    (case k6 => k_is)
    (case a7 => k_is)
    (case l7 => k_is)
    (case c7 => k_is)
    (case k7 => k_is)
    (case a8 => k_is)
    (case l8 => k_is)
    (case c8 => k_is)
    (case k8 => k_is)
    (case a9 => k_is)
    (case l9 => k_is)
    (case c9 => k_is)
    (case k9 => k_is)
    (case a10 => k_is)
    (case l10 => k_is)
    (case c10 => k_is)
    (case k10 => k_is)
    (case a11 => k_is)
    (case l11 => k_is)
    (case c11 => k_is)
    (case k11 => k_is)
    (case a12 => k_is)
    (case l12 => k_is)
    (case c12 => k_is)
    (case k12 => k_is)
    (case a13 => k_is)
    (case l13 => k_is)
    (case c13 => k_is)
    (case k13 => k_is)
    (case a14 => k_is)
    (case l14 => k_is)
    (case c14 => k_is)
    (case k14 => k_is)
    (case a15 => k_is)
    (case l15 => k_is)
    (case c15 => k_is)
    (case k15 => k_is)
    (case a16 => k_is)
    (case l16 => k_is)
    (case c16 => k_is)
    (case k16 => k_is)
    (case a17 => k_is)
    (case l17 => k_is)
    (case c17 => k_is)
    (case k17 => k_is)
    (case a18 => k_is)
    (case l18 => k_is)
    (case c18 => k_is)
    (case k18 => k_is)
    (case a19 => k_is)
    (case l19 => k_is)
    (case c19 => k_is)
    (case k19 => k_is)
    (case a20 => k_is)
    (case l20 => k_is)
    (case c20 => k_is)
    (case k20 => k_is)
    (case a21 => k_is)
    (case l21 => k_is)
    (case c21 => k_is)
    (case k21 => k_is)
    (case a22 => k_is)
    (case l22 => k_is)
    (case c22 => k_is)
    (case k22 => k_is)
    (case pg_Machine => k_is)
    (case hd_Machine => k_is)
    (case po_Machine => k_is)
    (case sa_Machine => k_is)
    (case mk_Machine => k_is)
    (case kc_Machine => k_is)
    (case n_Machine_letters => k_is)
    (case n_Machine_table => k_is)
    (case n_Machine_good => k_is)
    (case z_len => k_is)
    (case z_range => k_is)
    (case z_sorted => k_is)
    (case z_set => k_is)
    (case z_tuple => k_is)
    (case z_list => k_is)
    (case z_isinstance => k_is)
    (case z_all => k_is)
    (case z_any => k_is)
    (case z_int => k_is)
    (case z_max => k_is)
    (case z_min => k_is)
    (case z_str => k_is)
    (case z_enumerate => k_is)
    (case z_bool => k_is)
    (case z_dict => k_is)
    (case z_zip => k_is)
    (case z_repr => k_is)
    (case z_ValueError => k_is)
    (case aX_MeetError => k_is)
    (case sb_MeetError => k_is)
    (case hx_MeetError => k_is)
    (case tx_MeetError => k_is)
    (case ss_MeetError => k_is)
    (case aX_OtherLetters => k_is)
    (case sb_OtherLetters => k_is)
    (case hx_OtherLetters => k_is)
    (case tx_OtherLetters => k_is)
    (case ss_OtherLetters => k_is)
    (case xL_OtherLetters => k_is)
    (case sx_OtherLetters => k_is)
    (case kx_OtherLetters => k_is)
    (case gx_OtherLetters => k_is)
    (case gg_OtherLetters => k_is)
    (case gc_OtherLetters => k_is)
    (case mo_OtherLetters => k_is)
    (case oc1 => k_is)
    (case oc2 => k_is)
    (case oX_OtherLetters => k_exc)
    (case sp_OtherLetters_MeetError => k_is)
    (case st_OtherLetters_ValueError => k_is)
